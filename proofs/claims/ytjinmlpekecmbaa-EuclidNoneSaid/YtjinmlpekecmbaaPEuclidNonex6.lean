/- What the call of each function that the law reaches comes to, and the law out of its plain form; no condition but what stands in each theorem. -/
import Derived.Test.YtjinmlpekecmbaaPEuclidNonex0
import Derived.Test.YtjinmlpekecmbaaPEuclidNonex1
import Derived.Test.YtjinmlpekecmbaaPEuclidNonex2
import Derived.Test.YtjinmlpekecmbaaPEuclidNonex5
namespace Go.Proofs.Ytjinmlpekecmbaa.PEuclidNone
open Go.RowKit Go.Proofs.YtjinmlpekecmbaaW.PrintWords Go.Proofs.YtjinmlpekecmbaaW.PrintLast Go.Proofs.YtjinmlpekecmbaaW.PrintMore
open Go.Proofs.YtjinmlpekecmbaaW.PrintWords renaming blk_drewN → zN, blk_drew → zD, blk_alloc → zA, below_alloc → yA, pw_below_drewN → yN, below_drew1 → yD, below_set → yS, gate_callee → zC
open Go.Proofs.YtjinmlpekecmbaaW.PrintWords.Kd renaming V_alloc → vA, V_drewN → vN, V_drew → vD, N_alloc → nA, N_drewN → nN, N_drew → nD, C_alloc → cA, C_drewN → cN, C_drew → cD, V_mono → vM, V_far → vF
open Go.Proofs.YtjinmlpekecmbaaW.PrintWords.Aside0 renaming mk → zK
open Bool renaming true → T_, false → F_
open List renaming setIfInBounds_toArray → zt, set_cons_zero → zz, set_cons_succ → zs
attribute [local go_sem] max2_int min2_int max_two min_two max_three min_three max_four min_four
set_option linter.unusedVariables false
set_option maxHeartbeats 8000000
set_option maxRecDepth 100000
set_option linter.unusedSimpArgs false

/-! ### lin_Put: function 60 -/
def lin_Put.l0 : Nat → Int → List (S44) → Int → Int → Int → List (S44) → Int → List (S44) → Int → List (S44) → Option (Int × (List (S44)) × Int)
 | 0, _, _, _, _, _, _, _, _, _, _ => none
 | k + 1, x1, x21, x22, x23, x174000, x174001, x175000, x175001, x181000, x181001 => if x23 < x22 then (if 0 ≤ x23 then (if x23 < (x21.length : Int) then (if ((rd_T44 x21 x23).f0) = x1 then (lin_Put.l0 k x1 x21 x22 (wrap64 (x23 + 1)) x174000 x174001 x175000 x175001 x181000 x181001) else (if x181001.length < 8796093022208 then (lin_Put.l0 k x1 x21 x22 (wrap64 (x23 + 1)) x174000 x174001 x175000 x175001 x181000 (x181001 ++ [(⟨(rd_T44 x21 x23).f0, (rd_T44 x21 x23).f1⟩ : S44)])) else (none))) else (none)) else (none)) else ((lin_By.f k x174000 x174001 x1).bind fun t186 => ((lin_sum.f (([(⟨(⟨x181000, x181001⟩ : S41), 1⟩ : S75), (⟨(⟨x175000, x175001⟩ : S41), t186⟩ : S75)] : List (S75)))).bind fun bt190 => (some (bt190.1, bt190.2.1, bt190.2.2))))
def lin_Put.f (k : Nat) (a0_0 : Int) (l0_1 : List (S44)) (a1 : Int) (a2_0 : Int) (l2_1 : List (S44)) : Option (Int × (List (S44)) × Int) := (lin_right.f k (([(⟨a0_0, l0_1⟩ : S41), (⟨a2_0, l2_1⟩ : S41)] : List (S41)))).bind fun t179 => (if t179 = true then (lin_Put.l0 k a1 l0_1 (l0_1.length : Int) 0 a0_0 l0_1 a2_0 l2_1 a0_0 ([] : List (S44))) else (some (0, ([] : List (S44)), 1)))
theorem lin_Put.mono_l : ∀ k, (∀ y0 y1 y2 y3 y4 y5 y6 y7 y8 y9, LeO (lin_Put.l0 k y0 y1 y2 y3 y4 y5 y6 y7 y8 y9) (lin_Put.l0 (k + 1) y0 y1 y2 y3 y4 y5 y6 y7 y8 y9))
 | 0 => fun _ _ _ _ _ _ _ _ _ _ r h => by simp [lin_Put.l0] at h
 | k + 1 => by
  have ih0 := lin_Put.mono_l k
  ·intro y0 y1 y2 y3 y4 y5 y6 y7 y8 y9
   unfold lin_Put.l0
   repeat' first | (with_reducible first | exact ih0 .. | exact lin_By.mono .. | exact lin_right.mono .. | exact LeO.refl _ | exact LeO.none _ | refine LeO.ite ?_ ?_ | refine LeO.bind ?_ (fun _ => ?_)) | exact ih0 .. | exact lin_By.mono .. | exact lin_right.mono .. | exact LeO.none _ | refine LeO.ite ?_ ?_ | refine LeO.bind ?_ (fun _ => ?_)
theorem lin_Put.mono : ∀ a0 a1 a2 a3 a4 k, LeO (lin_Put.f k a0 a1 a2 a3 a4) (lin_Put.f (k + 1) a0 a1 a2 a3 a4) := by
 intro a0 a1 a2 a3 a4 k
 have ih0 := lin_Put.mono_l k
 unfold lin_Put.f
 repeat' first | (with_reducible first | exact ih0 .. | exact lin_By.mono .. | exact lin_right.mono .. | exact LeO.refl _ | exact LeO.none _ | refine LeO.ite ?_ ?_ | refine LeO.bind ?_ (fun _ => ?_)) | exact ih0 .. | exact lin_By.mono .. | exact lin_right.mono .. | exact LeO.none _ | refine LeO.ite ?_ ?_ | refine LeO.bind ?_ (fun _ => ?_)
def lin_Put.T10 : Bool × List (List Nat × List Nat) := (true, [([], []), ([0], [0]), ([], []), ([], []), ([], []), ([3, 4], [3, 4]), ([2, 5], [2, 5]), ([1, 6], [1, 6]), ([7, 5], [7]), ([8], [8]), ([8], [8]), ([9, 8, 0, 1, 2, 3, 4, 5, 6, 7, 8, 9, 10], [9]), ([10, 11, 0, 1, 2, 3, 4, 5, 6, 7, 8, 9, 10, 11], [10])])
def lin_Put.B10 : List Nat := [0, 1, 0, 0, 0, 24, 60, 127, 255, 511, 511, 2047, 4095]
theorem lin_Put.tab10 : rtab .any (opsOf Try.f60 10) = lin_Put.T10 := by kernel_rfl
theorem lin_Put.bits10 : waitsOk lin_Put.T10.2 lin_Put.B10 = true := by kernel_rfl
theorem lin_Put.calls (k : Nat) (a0_0 : Int) (P0_1_ : Nat → Prop) (A0_1 : Option Addr) (c0_1 : Nat) (l0_1 : List (S44)) (a1 : Int) (a2_0 : Int) (P2_1_ : Nat → Prop) (A2_1 : Option Addr) (c2_1 : Nat) (l2_1 : List (S44)) (r1 : Int) (r2 : List (S44)) (r3 : Int) (w : World) (hs0_1 : Kd.V k44 44 w w.heap.size (fun k_ => P0_1_ k_) (.slice A0_1 l0_1.length c0_1) l0_1) (hs2_1 : Kd.V k44 44 w w.heap.size (fun k_ => P2_1_ k_) (.slice A2_1 l2_1.length c2_1) l2_1) (h : lin_Put.f k a0_0 l0_1 a1 a2_0 l2_1 = some (r1, r2, r3)) :
  Calls Try.prog 60 #[.agg #[.int .i64 a0_0, .slice A0_1 l0_1.length c0_1], .int .i64 a1, .agg #[.int .i64 a2_0, .slice A2_1 l2_1.length c2_1]] w fun e w' => ∃ v1_ : Value, e = .returned (.tuple #[.agg #[.int .i64 r1, v1_], .int .i64 r3]) ∧ Kd.R k44 44 w' w.heap.size (fun k_ => (w.heap.size ≤ k_)) v1_ r2 ∧ Below w.heap.size w w' := by
 have hu41 := Try.underlying41
 have hu44 := Try.underlying44
 have hu75 := Try.underlying75
 have HO0_1 := zK (show Kd.V k44 44 w w.heap.size (fun k_ => ((P0_1_ k_ ∨ P2_1_ k_) ∨ w.heap.size ≤ k_)) (.slice A0_1 l0_1.length c0_1) l0_1 from vM hs0_1 (fun k_ hk => .inl (.inl hk)))
 have HO2_1 := zK (show Kd.V k44 44 w w.heap.size (fun k_ => ((P0_1_ k_ ∨ P2_1_ k_) ∨ w.heap.size ≤ k_)) (.slice A2_1 l2_1.length c2_1) l2_1 from vM hs2_1 (fun k_ hk => .inl (.inr hk)))
 have HB := zK (Below.refl w.heap.size w)
 have H : ((lin_right.f k (([(⟨a0_0, l0_1⟩ : S41), (⟨a2_0, l2_1⟩ : S41)] : List (S41)))).bind fun t179 => (if t179 = true then (lin_Put.l0 k a1 l0_1 (l0_1.length : Int) 0 a0_0 l0_1 a2_0 l2_1 a0_0 ([] : List (S44))) else (some (0, ([] : List (S44)), 1)))) = some (r1, r2, r3) := h
 clear h
 obtain ⟨y176, hy176⟩ : ∃ y_ : List (S41), y_ = (([(⟨a0_0, l0_1⟩ : S41), (⟨a2_0, l2_1⟩ : S41)] : List (S41))) := ⟨_, rfl⟩
 replace H : ((lin_right.f k y176).bind fun t179 => (if t179 = true then (lin_Put.l0 k a1 l0_1 (l0_1.length : Int) 0 a0_0 l0_1 a2_0 l2_1 a0_0 ([] : List (S44))) else (some (0, ([] : List (S44)), 1)))) = some (r1, r2, r3) := by first | (rw [hy176]; with_reducible exact H) | (have H2_ := (Option.bind_some _ _).symm.trans H; rw [hy176]; with_reducible exact H2_) | (have H2_ := (Option.bind_some _ _).symm.trans H; with_reducible exact H2_) | with_reducible exact H | (rw [hy176]; exact H) | exact H
 have Ny176 := zK hy176; clear hy176; replace H := zob H
 obtain ⟨t179, A40, H⟩ := H
 replace H : (if t179 = true then (lin_Put.l0 k a1 l0_1 (l0_1.length : Int) 0 a0_0 l0_1 a2_0 l2_1 a0_0 ([] : List (S44))) else (some (0, ([] : List (S44)), 1))) = some (r1, r2, r3) := H
 have A4 := zK A40; clear A40
 by_cases c5 : t179 = true
 ·subst c5
  have H1 : (lin_Put.l0 k a1 l0_1 (l0_1.length : Int) 0 a0_0 l0_1 a2_0 l2_1 a0_0 ([] : List (S44))) = some (r1, r2, r3) := by rw [if_pos rfl] at H; exact H
  clear H; have H := H1; clear H1
  have H' := zK H; clear H
  go_enter Try.func60, Try.ntmps60
  go_wp2_with (first | ((with_reducible refine gate_dst (N := 3) rfl ?_); refine zBox (cs := #[.int .i64 a0_0, .slice A0_1 l0_1.length c0_1]) (t := 41) ?_; intro gb173 hg w6 hbox hb; replace HO0_1 := zK (Kd.V_below (Kd.V_elderB (zv HO0_1) gb173 (Nat.le_of_eq hg.symm)) hb); replace HO2_1 := zK (Kd.V_below (Kd.V_elderB (zv HO2_1) gb173 (Nat.le_of_eq hg.symm)) hb); have BK173 := zK (hbox); have GW173 := zK ((by rw [hg]; exact (below_size (zo HB)) : w.heap.size ≤ gb173)); replace HB := zst HB hb; clear hb hbox hg) | ((with_reducible refine gate_dst (N := 5) rfl ?_); refine zBox (cs := #[.int .i64 a2_0, .slice A2_1 l2_1.length c2_1]) (t := 41) ?_; intro gb174 hg w7 hbox hb; replace HO0_1 := zK (Kd.V_below (Kd.V_elderB (zv HO0_1) gb174 (Nat.le_of_eq hg.symm)) hb); replace HO2_1 := zK (Kd.V_below (Kd.V_elderB (zv HO2_1) gb174 (Nat.le_of_eq hg.symm)) hb); have BK174 := zK (hbox); have GW174 := zK ((by rw [hg]; exact (below_size (zo HB)) : w.heap.size ≤ gb174)); replace HB := zst HB hb; have NB173_174 := zn1 BK173 hg; have NB174_173 := zn2 BK173 hg; replace BK173 := zbb BK173 hb; clear hb hbox hg) | ((with_reducible refine gate_dst (N := 6) rfl ?_); refine zBox (cs := #[.int .i64 0, .slice none 0 0]) (t := 41) ?_; intro gb175 hg w8 hbox hb; replace HO0_1 := zK (Kd.V_below (Kd.V_elderB (zv HO0_1) gb175 (Nat.le_of_eq hg.symm)) hb); replace HO2_1 := zK (Kd.V_below (Kd.V_elderB (zv HO2_1) gb175 (Nat.le_of_eq hg.symm)) hb); have BK175 := zK (hbox); have GW175 := zK ((by rw [hg]; exact (below_size (zo HB)) : w.heap.size ≤ gb175)); replace HB := zst HB hb; have NB173_175 := zn1 BK173 hg; have NB175_173 := zn2 BK173 hg; replace BK173 := zbb BK173 hb; have NB174_175 := zn1 BK174 hg; have NB175_174 := zn2 BK174 hg; replace BK174 := zbb BK174 hb; clear hb hbox hg; have hnb9 := NB173_174.out; have hnc9 := NB174_173.out; have hnb10 := NB173_175.out; have hnc10 := NB175_173.out; have hcz11_0 := zc0 BK173; have hcz11_1 := zc1 BK173; have hfz11_0 := zfz BK173 0; have hfz11_1 := zfz BK173 1; have hnb12 := NB174_175.out; have hnc12 := NB175_174.out; have hcz13_0 := zc0 BK174; have hcz13_1 := zc1 BK174; have hfz13_0 := zfz BK174 0; have hfz13_1 := zfz BK174 1) | ((with_reducible refine gate_dst (N := 13) rfl ?_); refine Kd.N_lit k41 _ 41 ?hg (N' := 13) ?hd (xs := ([(⟨a0_0, l0_1⟩ : S41), (⟨a2_0, l2_1⟩ : S41)] : List (S41))) (inner := [.int .i64 a0_0, .slice A0_1 l0_1.length c0_1, .int .i64 a2_0, .slice A2_1 l2_1.length c2_1]) (ok := (fun k_ => ((P0_1_ k_ ∨ P2_1_ k_) ∨ w.heap.size ≤ k_) ∧ k_ ≠ gb173 ∧ k_ ≠ gb174 ∧ k_ ≠ gb175)) (okp := (fun k_ => ((P0_1_ k_ ∨ P2_1_ k_) ∨ w.heap.size ≤ k_) ∧ k_ ≠ gb173 ∧ k_ ≠ gb174 ∧ k_ ≠ gb175)) ?hr ?hp (fun _ hk => hk) ((show ∀ k_, w8.heap.size ≤ k_ → (fun k_ => ((P0_1_ k_ ∨ P2_1_ k_) ∨ w.heap.size ≤ k_) ∧ k_ ≠ gb173 ∧ k_ ≠ gb174 ∧ k_ ≠ gb175) k_ from fun k_ hk => ⟨(.inr (Nat.le_trans (below_size (zo HB)) hk)), Kd.freshB (g := gb173) (o := .cells #[.int .i64 a0_0, .slice A0_1 l0_1.length c0_1] 41 (0, 0)) (zb BK173) k_ hk, Kd.freshB (g := gb174) (o := .cells #[.int .i64 a2_0, .slice A2_1 l2_1.length c2_1] 41 (0, 0)) (zb BK174) k_ hk, Kd.freshB (g := gb175) (o := .cells #[.int .i64 0, .slice none 0 0] 41 (0, 0)) (zb BK175) k_ hk⟩) _ (Nat.le_refl _)) (Below.refl _ _) (Nat.le_refl _) (by simp) ?_; (case hd => rfl); (case hg => rfl); (case hr => first | (go_simp; done) | (go_simp; rfl)); (case hp => exact (Reps.c2 (show Kd.FK k41 _ _ (⟨a0_0, l0_1⟩ : S41) [.int .i64 a0_0, .slice A0_1 l0_1.length c0_1] from (k41_mkF _ _ (⟨a0_0, l0_1⟩ : S41) (Kd.V_reads' (vM (ok' := (fun k_ => ((P0_1_ k_ ∨ P2_1_ k_) ∨ w.heap.size ≤ k_) ∧ k_ ≠ gb173 ∧ k_ ≠ gb174 ∧ k_ ≠ gb175)) (HO0_1.out) (fun k_ hk => ⟨hk.1.1.1, ⟨hk.1.1.2, ⟨hk.1.2, hk.2⟩⟩⟩))).2.1 (Kd.V_F (vM (ok' := (fun k_ => ((P0_1_ k_ ∨ P2_1_ k_) ∨ w.heap.size ≤ k_) ∧ k_ ≠ gb173 ∧ k_ ≠ gb174 ∧ k_ ≠ gb175)) (HO0_1.out) (fun k_ hk => ⟨hk.1.1.1, ⟨hk.1.1.2, ⟨hk.1.2, hk.2⟩⟩⟩))))) (Reps.c2 (show Kd.FK k41 _ _ (⟨a2_0, l2_1⟩ : S41) [.int .i64 a2_0, .slice A2_1 l2_1.length c2_1] from (k41_mkF _ _ (⟨a2_0, l2_1⟩ : S41) (Kd.V_reads' (vM (ok' := (fun k_ => ((P0_1_ k_ ∨ P2_1_ k_) ∨ w.heap.size ≤ k_) ∧ k_ ≠ gb173 ∧ k_ ≠ gb174 ∧ k_ ≠ gb175)) (HO2_1.out) (fun k_ hk => ⟨hk.1.1.1, ⟨hk.1.1.2, ⟨hk.1.2, hk.2⟩⟩⟩))).2.1 (Kd.V_F (vM (ok' := (fun k_ => ((P0_1_ k_ ∨ P2_1_ k_) ∨ w.heap.size ≤ k_) ∧ k_ ≠ gb173 ∧ k_ ≠ gb174 ∧ k_ ≠ gb175)) (HO2_1.out) (fun k_ hk => ⟨hk.1.1.1, ⟨hk.1.1.2, ⟨hk.1.2, hk.2⟩⟩⟩))))) (Reps.none _ _)))); intro v177 w14 ho15 hb hg_ hnew_; clear hg_ hnew_; (first | rw [← Ny176.out] at ho15 | (simp only [Int.reduceToNat] at ho15; rw [← Ny176.out] at ho15)); replace HO0_1 := zK (Kd.V_elder' (zv HO0_1) (Kd.N_base ho15) hb); replace HO2_1 := zK (Kd.V_elder' (zv HO2_1) (Kd.N_base ho15) hb); have HO178 := zK (Kd.N_lower ho15 (below_size (zo HB))); replace BK173 := zbb BK173 hb; replace BK174 := zbb BK174 hb; replace BK175 := zbb BK175 hb; replace HB := zst HB hb; clear hb ho15; obtain ⟨Ao16, co16, eo16⟩ := Kd.N_slice HO178.out; subst eo16) | ((with_reducible refine zC (f := 32) rfl ?_); refine zGo (some 14) Try.func32 #[.slice Ao16 y176.length co16] ?_; (with_reducible refine (lin_right.calls k _ _ y176 true _ ?side1 ?side2 A4.out).mono ?_); (case side1 => repeat (first | exact (Kd.N_reads' HO178.out).2.2 | (with_reducible refine cA ?_ _) | (with_reducible refine cN ?_ _) | (with_reducible refine cD ?_))); (case side2 => exact (Kd.N_reads' HO178.out).2.1); rintro e w17 ⟨rfl, hb⟩; refine ⟨_, rfl, ?_⟩; replace HO0_1 := zK (Kd.V_below (zv HO0_1) hb); replace HO2_1 := zK (Kd.V_below (zv HO2_1) hb); replace HO178 := zK (Kd.N_below (zn HO178) hb); replace BK173 := zbb BK173 hb; replace BK174 := zbb BK174 hb; replace BK175 := zbb BK175 hb; replace HB := zst HB hb; clear hb; have hcz18_0 := zc0 BK173; have hcz18_1 := zc1 BK173; have hfz18_0 := zfz BK173 0; have hfz18_1 := zfz BK173 1) | ((with_reducible refine gate_dst (N := 8) rfl ?_); refine zBox (cs := #[.int .i64 0, .slice none 0 0]) (t := 41) ?_; intro gb180 hg w19 hbox hb; replace HO0_1 := zK (Kd.V_below (Kd.V_elderB (zv HO0_1) gb180 (Nat.le_of_eq hg.symm)) hb); replace HO2_1 := zK (Kd.V_below (Kd.V_elderB (zv HO2_1) gb180 (Nat.le_of_eq hg.symm)) hb); replace HO178 := zK (Kd.N_below (Kd.N_elderB (zn HO178) gb180 (Nat.le_of_eq hg.symm)) hb); have BK180 := zK (hbox); have GW180 := zK ((by rw [hg]; exact (below_size (zo HB)) : w.heap.size ≤ gb180)); replace HB := zst HB hb; have NB173_180 := zn1 BK173 hg; have NB180_173 := zn2 BK173 hg; replace BK173 := zbb BK173 hb; have NB174_180 := zn1 BK174 hg; have NB180_174 := zn2 BK174 hg; replace BK174 := zbb BK174 hb; have NB175_180 := zn1 BK175 hg; have NB180_175 := zn2 BK175 hg; replace BK175 := zbb BK175 hb; clear hb hbox hg; have hnb20 := NB180_173.out; have hnc20 := NB173_180.out; have hnb21 := NB180_174.out; have hnc21 := NB174_180.out; have hnb22 := NB180_175.out; have hnc22 := NB175_180.out; have hcz23_0 := zc0 BK180; have hcz23_1 := zc1 BK180; have hfz23_0 := zfz BK180 0; have hfz23_1 := zfz BK180 1; have hcz24_0 := zc0 BK173; have hcz24_1 := zc1 BK173; have hfz24_0 := zfz BK173 0; have hfz24_1 := zfz BK173 1))
  go_loopg [23] k (fun kq v23 w' => ∃ (x23_1 : Int) (x181001_1 : List (S44)) (u181001 : Value), v23 = .int .i64 x23_1 ∧ Aside0 (lin_Put.l0 kq a1 l0_1 (l0_1.length : Int) x23_1 a0_0 l0_1 a2_0 l2_1 a0_0 x181001_1 = some (r1, r2, r3)) ∧ Aside0 (kq ≤ k) ∧ Aside0 (Kd.V k44 44 w' w.heap.size (fun k_ => ((P0_1_ k_ ∨ P2_1_ k_) ∨ w.heap.size ≤ k_) ∧ some k_ ≠ (u181001 : Value).ownBlock ∧ k_ ≠ gb173 ∧ k_ ≠ gb174 ∧ k_ ≠ gb175 ∧ k_ ≠ gb180) (.slice A0_1 l0_1.length c0_1) l0_1) ∧ Aside0 (Kd.V k44 44 w' w.heap.size (fun k_ => ((P0_1_ k_ ∨ P2_1_ k_) ∨ w.heap.size ≤ k_) ∧ some k_ ≠ (u181001 : Value).ownBlock ∧ k_ ≠ gb173 ∧ k_ ≠ gb174 ∧ k_ ≠ gb175 ∧ k_ ≠ gb180) (.slice A0_1 l0_1.length c0_1) l0_1) ∧ Aside0 (Kd.V k44 44 w' w.heap.size (fun k_ => ((P0_1_ k_ ∨ P2_1_ k_) ∨ w.heap.size ≤ k_) ∧ some k_ ≠ (u181001 : Value).ownBlock ∧ k_ ≠ gb173 ∧ k_ ≠ gb174 ∧ k_ ≠ gb175 ∧ k_ ≠ gb180) (.slice A2_1 l2_1.length c2_1) l2_1) ∧ Aside0 (Kd.R k44 44 w' w.heap.size (fun k_ => (w.heap.size ≤ k_)) u181001 x181001_1) ∧ Aside0 (w'.heap[gb173]? = some (.cells #[.int .i64 a0_0, (.slice A0_1 l0_1.length c0_1)] 41 (0, 0))) ∧ Aside0 (w'.heap[gb174]? = some (.cells #[.int .i64 a2_0, (.slice A2_1 l2_1.length c2_1)] 41 (0, 0))) ∧ Aside0 (w'.heap[gb175]? = some (.cells #[.int .i64 0, (.slice none 0 0)] 41 (0, 0))) ∧ Aside0 (w'.heap[gb180]? = some (.cells #[.int .i64 a0_0, u181001] 41 (0, 0))) ∧ Aside0 (Below w.heap.size w w'))
  case atStart => exact ⟨(0), (([] : List (S44))), (.slice none 0 0), (by first | rfl | (simp; done) | (simp [*]; done)), H', ⟨Nat.le_refl _⟩, ⟨by (with_reducible repeat (first | apply vA | apply vN | apply vD)); exact vM (vF (p := ⟨gb180, 1, none⟩) (vF (p := ⟨gb180, 0, none⟩) (vM HO0_1.out (fun k_ hk => (⟨hk, hk.2⟩ : _ ∧ k_ ≠ gb180))) (fun _ hk => hk.2) (.int .i64 a0_0)) (fun _ hk => hk.2) (.slice none 0 0)) (fun _ hk => ⟨hk.1.1.1.1.1.1, ⟨(by simp [Value.ownBlock]), ⟨hk.1.1.1.1.1.2, ⟨hk.1.1.1.1.2, ⟨hk.1.1.1.2, hk.1.2⟩⟩⟩⟩⟩)⟩, ⟨by (with_reducible repeat (first | apply vA | apply vN | apply vD)); exact vM (vF (p := ⟨gb180, 1, none⟩) (vF (p := ⟨gb180, 0, none⟩) (vM HO0_1.out (fun k_ hk => (⟨hk, hk.2⟩ : _ ∧ k_ ≠ gb180))) (fun _ hk => hk.2) (.int .i64 a0_0)) (fun _ hk => hk.2) (.slice none 0 0)) (fun _ hk => ⟨hk.1.1.1.1.1.1, ⟨(by simp [Value.ownBlock]), ⟨hk.1.1.1.1.1.2, ⟨hk.1.1.1.1.2, ⟨hk.1.1.1.2, hk.1.2⟩⟩⟩⟩⟩)⟩, ⟨by (with_reducible repeat (first | apply vA | apply vN | apply vD)); exact vM (vF (p := ⟨gb180, 1, none⟩) (vF (p := ⟨gb180, 0, none⟩) (vM HO2_1.out (fun k_ hk => (⟨hk, hk.2⟩ : _ ∧ k_ ≠ gb180))) (fun _ hk => hk.2) (.int .i64 a0_0)) (fun _ hk => hk.2) (.slice none 0 0)) (fun _ hk => ⟨hk.1.1.1.1.1.1, ⟨(by simp [Value.ownBlock]), ⟨hk.1.1.1.1.1.2, ⟨hk.1.1.1.1.2, ⟨hk.1.1.1.2, hk.1.2⟩⟩⟩⟩⟩)⟩, ⟨by first | exact Kd.R_nil _ _ _ _ _ | exact Kd.N_nil _ _ _ _ _ | exact Kd.V_nil _ _ _ _ _ | exact Kd.Q_nil _ _ _ _ _ | exact Kd.S_nil _ _ _ _ _⟩, ⟨zb BK173⟩, ⟨zb BK174⟩, ⟨zb BK175⟩, ⟨by refine zM ?_; refine blk_put (cs := #[.int .i64 a0_0, .slice none 0 0]) ?_ 1 _ rfl; refine zM ?_; refine blk_put (cs := #[.int .i64 0, .slice none 0 0]) ?_ 0 _ rfl; refine zM ?_; exact BK180.out⟩, ⟨zo HB⟩⟩
  case round =>
   clear H'; try clear c1; try clear c2; try clear p2
   try clear c3; try clear c5; try clear c6; try clear c9
   try clear c10; try clear c12; try clear c20; try clear c21
   try clear c22; try clear hcz11_0; try clear hcz11_1; try clear hcz13_0
   try clear hcz13_1; try clear hcz18_0; try clear hcz18_1; try clear hcz23_0
   try clear hcz23_1; try clear hcz24_0; try clear hcz24_1; try clear hfz11_0
   try clear hfz11_1; try clear hfz13_0; try clear hfz13_1; try clear hfz18_0
   try clear hfz18_1; try clear hfz23_0; try clear hfz23_1; try clear hfz24_0
   try clear hfz24_1
   obtain ⟨x23_1, x181001_1, u181001, rfl, HA, HK1, HO_21, HO_174001, HO_175001, HO_181001, BK173, BK174, BK175, BK180, HB⟩ := hrel
   cases gk with
   | zero => exact absurd HA.out (by simp [lin_Put.l0])
   | succ k1 =>
    have H := HA.out; clear HA
    simp only [lin_Put.l0] at H
    by_cases c25 : x23_1 < (l0_1.length : Int)
    ·rw [if_pos c25] at H
     have c25b0 : decide (x23_1 < (l0_1.length : Int)) = true := decide_eq_true c25
     clear c25
     by_cases c26 : 0 ≤ x23_1
     ·rw [if_pos c26] at H
      have c26b0 : decide (0 ≤ x23_1) = true := decide_eq_true c26; clear c26
      by_cases c27 : x23_1 < (l0_1.length : Int)
      ·rw [if_pos c27] at H
       have c27b0 : decide (x23_1 < (l0_1.length : Int)) = true := decide_eq_true c27
       clear c27
       by_cases c28 : ((rd_T44 l0_1 x23_1).f0) = a1
       ·rw [if_pos c28] at H
        have c28b0 : (((rd_T44 l0_1 x23_1).f0) == a1) = true := beq_iff_eq.mpr c28
        have c28b1 : (((rd_T44 l0_1 x23_1).f0) != a1) = false := bne_eq_false_iff_eq.mpr c28
        clear c28
        have H' := zK H; clear H
        have p181 : 0 ≤ (x23_1 : Int) := zdt
        have q181 : x23_1 < (l0_1.length : Int) := zdt
        obtain ⟨ad181, e181, hx181_0, hx181_1⟩ := at_T44 (Kd.V_reads' HO_21.out).2.2 x23_1 p181 q181
        cases e181
        replace p181 := eq_true p181
        replace q181 := eq_true q181
        go_wp2_with (first | ((with_reducible refine gate_dst (N := 10) rfl ?_); refine zBox (cs := #[.int .i64 0, .int .i64 0]) (t := 44) ?_; intro gb182 hg w29 hbox hb; replace HO_21 := zK (Kd.V_below (Kd.V_elderB (zv HO_21) gb182 (Nat.le_of_eq hg.symm)) hb); replace HO_174001 := zK (Kd.V_below (Kd.V_elderB (zv HO_174001) gb182 (Nat.le_of_eq hg.symm)) hb); replace HO_175001 := zK (Kd.V_below (Kd.V_elderB (zv HO_175001) gb182 (Nat.le_of_eq hg.symm)) hb); replace HO_181001 := zK (Kd.R_below (Kd.R_elderB (zr HO_181001) gb182 (Nat.le_of_eq hg.symm)) hb); have BK182 := zK (hbox); have GW182 := zK ((by rw [hg]; exact (below_size (zo HB)) : w.heap.size ≤ gb182)); replace HB := zst HB hb; have NB173_182 := zn1 BK173 hg; have NB182_173 := zn2 BK173 hg; replace BK173 := zbb BK173 hb; have NB174_182 := zn1 BK174 hg; have NB182_174 := zn2 BK174 hg; replace BK174 := zbb BK174 hb; have NB175_182 := zn1 BK175 hg; have NB182_175 := zn2 BK175 hg; replace BK175 := zbb BK175 hb; have NB180_182 := zn1 BK180 hg; have NB182_180 := zn2 BK180 hg; replace BK180 := zbb BK180 hb; clear hb hbox hg; have hnb30 := NB182_173.out; have hnc30 := NB173_182.out; have hnb31 := NB182_174.out; have hnc31 := NB174_182.out; have hnb32 := NB182_175.out; have hnc32 := NB175_182.out; have hnb33 := NB182_180.out; have hnc33 := NB180_182.out; have hcz34_0 := zc0 BK182; have hcz34_1 := zc1 BK182; have hfz34_0 := zfz BK182 0; have hfz34_1 := zfz BK182 1))
        go_roundg k1
        case measure => have := HK1.out; omega
        case rel => exact ⟨(wrap64 (x23_1 + 1)), (x181001_1), (u181001), (by first | rfl | (simp; done) | (simp [*]; done)), H', ⟨by have := HK1.out; omega⟩, ⟨by (with_reducible repeat (first | apply vA | apply vN | apply vD)); exact vM (vF (p := ⟨gb182, 1, none⟩) (vF (p := ⟨gb182, 0, none⟩) (vM HO_21.out (fun k_ hk => (⟨hk, hk.2⟩ : _ ∧ k_ ≠ gb182))) (fun _ hk => hk.2) (.int .i64 ((rd_T44 l0_1 x23_1).f0))) (fun _ hk => hk.2) (.int .i64 ((rd_T44 l0_1 x23_1).f1))) (fun _ hk => ⟨hk.1.1.1, ⟨hk.1.1.2.1, ⟨hk.1.1.2.2.1, ⟨hk.1.1.2.2.2.1, ⟨hk.1.1.2.2.2.2.1, hk.1.1.2.2.2.2.2⟩⟩⟩⟩⟩)⟩, ⟨by (with_reducible repeat (first | apply vA | apply vN | apply vD)); exact vM (vF (p := ⟨gb182, 1, none⟩) (vF (p := ⟨gb182, 0, none⟩) (vM HO_174001.out (fun k_ hk => (⟨hk, hk.2⟩ : _ ∧ k_ ≠ gb182))) (fun _ hk => hk.2) (.int .i64 ((rd_T44 l0_1 x23_1).f0))) (fun _ hk => hk.2) (.int .i64 ((rd_T44 l0_1 x23_1).f1))) (fun _ hk => ⟨hk.1.1.1, ⟨hk.1.1.2.1, ⟨hk.1.1.2.2.1, ⟨hk.1.1.2.2.2.1, ⟨hk.1.1.2.2.2.2.1, hk.1.1.2.2.2.2.2⟩⟩⟩⟩⟩)⟩, ⟨by (with_reducible repeat (first | apply vA | apply vN | apply vD)); exact vM (vF (p := ⟨gb182, 1, none⟩) (vF (p := ⟨gb182, 0, none⟩) (vM HO_175001.out (fun k_ hk => (⟨hk, hk.2⟩ : _ ∧ k_ ≠ gb182))) (fun _ hk => hk.2) (.int .i64 ((rd_T44 l0_1 x23_1).f0))) (fun _ hk => hk.2) (.int .i64 ((rd_T44 l0_1 x23_1).f1))) (fun _ hk => ⟨hk.1.1.1, ⟨hk.1.1.2.1, ⟨hk.1.1.2.2.1, ⟨hk.1.1.2.2.2.1, ⟨hk.1.1.2.2.2.2.1, hk.1.1.2.2.2.2.2⟩⟩⟩⟩⟩)⟩, ⟨by (with_reducible repeat (first | apply Kd.R_alloc | apply Kd.R_drewN | apply Kd.R_drew)); exact Kd.R_mono (Kd.R_far (p := ⟨gb182, 1, none⟩) (Kd.R_far (p := ⟨gb182, 0, none⟩) (Kd.R_mono HO_181001.out (fun k_ hk => (⟨hk, hk.2⟩ : _ ∧ k_ ≠ gb182))) (fun _ hk => hk.2) (.int .i64 ((rd_T44 l0_1 x23_1).f0))) (fun _ hk => hk.2) (.int .i64 ((rd_T44 l0_1 x23_1).f1))) (fun _ hk => hk.1.1)⟩, ⟨zb BK173⟩, ⟨zb BK174⟩, ⟨zb BK175⟩, ⟨zb BK180⟩, ⟨zo HB⟩⟩
       ·rw [if_neg c28] at H
        have c28b0 : (((rd_T44 l0_1 x23_1).f0) == a1) = false := beq_eq_false_iff_ne.mpr c28
        have c28b1 : (((rd_T44 l0_1 x23_1).f0) != a1) = true := bne_iff_ne.mpr c28
        by_cases c35 : x181001_1.length < 8796093022208
        ·rw [if_pos c35] at H
         have LMc35 := zK c35; clear c35
         obtain ⟨y183, hy183⟩ : ∃ y_ : List (S44), y_ = (x181001_1 ++ [(⟨(rd_T44 l0_1 x23_1).f0, (rd_T44 l0_1 x23_1).f1⟩ : S44)]) := ⟨_, rfl⟩
         replace H : (lin_Put.l0 k1 a1 l0_1 (l0_1.length : Int) (wrap64 (x23_1 + 1)) a0_0 l0_1 a2_0 l2_1 a0_0 y183) = some (r1, r2, r3) := by first | (rw [hy183]; with_reducible exact H) | (have H2_ := (Option.bind_some _ _).symm.trans H; rw [hy183]; with_reducible exact H2_) | (have H2_ := (Option.bind_some _ _).symm.trans H; with_reducible exact H2_) | with_reducible exact H | (rw [hy183]; exact H) | exact H
         have Ny183 := zK hy183; clear hy183
         have H' := zK H; clear H
         have p181 : 0 ≤ (x23_1 : Int) := zdt
         have q181 : x23_1 < (l0_1.length : Int) := zdt
         obtain ⟨ad181, e181, hx181_0, hx181_1⟩ := at_T44 (Kd.V_reads' HO_21.out).2.2 x23_1 p181 q181
         cases e181
         replace p181 := eq_true p181
         replace q181 := eq_true q181
         go_wp2_with (first | ((with_reducible refine gate_dst (N := 10) rfl ?_); refine zBox (cs := #[.int .i64 0, .int .i64 0]) (t := 44) ?_; intro gb182 hg w36 hbox hb; replace HO_21 := zK (Kd.V_below (Kd.V_elderB (zv HO_21) gb182 (Nat.le_of_eq hg.symm)) hb); replace HO_174001 := zK (Kd.V_below (Kd.V_elderB (zv HO_174001) gb182 (Nat.le_of_eq hg.symm)) hb); replace HO_175001 := zK (Kd.V_below (Kd.V_elderB (zv HO_175001) gb182 (Nat.le_of_eq hg.symm)) hb); replace HO_181001 := zK (Kd.R_below (Kd.R_elderB (zr HO_181001) gb182 (Nat.le_of_eq hg.symm)) hb); have BK182 := zK (hbox); have GW182 := zK ((by rw [hg]; exact (below_size (zo HB)) : w.heap.size ≤ gb182)); replace HB := zst HB hb; have NB173_182 := zn1 BK173 hg; have NB182_173 := zn2 BK173 hg; replace BK173 := zbb BK173 hb; have NB174_182 := zn1 BK174 hg; have NB182_174 := zn2 BK174 hg; replace BK174 := zbb BK174 hb; have NB175_182 := zn1 BK175 hg; have NB182_175 := zn2 BK175 hg; replace BK175 := zbb BK175 hb; have NB180_182 := zn1 BK180 hg; have NB182_180 := zn2 BK180 hg; replace BK180 := zbb BK180 hb; clear hb hbox hg; have hnb37 := NB182_173.out; have hnc37 := NB173_182.out; have hnb38 := NB182_174.out; have hnc38 := NB174_182.out; have hnb39 := NB182_175.out; have hnc39 := NB175_182.out; have hnb40 := NB182_180.out; have hnc40 := NB180_182.out; have hcz41_0 := zc0 BK182; have hcz41_1 := zc1 BK182; have hfz41_0 := zfz BK182 0; have hfz41_1 := zfz BK182 1; have hnb42 := NB180_173.out; have hnc42 := NB173_180.out; have hnb43 := NB180_174.out; have hnc43 := NB174_180.out; have hnb44 := NB180_175.out; have hnc44 := NB175_180.out; have hcz45_0 := zc0 BK180; have hcz45_1 := zc1 BK180; have hfz45_0 := zfz BK180 0; have hfz45_1 := zfz BK180 1) | ((with_reducible refine gate_builtin (b := .append) (xs := #[.tmp 32, .tmp 34]) rfl ?_); at_builtin; refine Kd.R_append k44 (w0 := w) w.heap.size rfl (.tmp 32) (.tmp 34) 39 44 (.agg #[(.int .i64 0), (.int .i64 0)]) 16 rfl Try.underlying39 info44 rfl (by decide) (by omega) u181001 x181001_1 (⟨(rd_T44 l0_1 x23_1).f0, (rd_T44 l0_1 x23_1).f1⟩ : S44) [.int .i64 ((rd_T44 l0_1 x23_1).f0), .int .i64 ((rd_T44 l0_1 x23_1).f1)] (fun k_ => (w.heap.size ≤ k_) ∧ k_ ≠ gb182) (fun _ => False) rfl (by first | (go_simp; done) | (go_simp; rfl)) ?aP (fun _ hk => hk.elim) ?aF ?aO ?aB ?aS ?aL ?_; (case aP => exact k44_mkM _ _ _ (⟨(rd_T44 l0_1 x23_1).f0, (rd_T44 l0_1 x23_1).f1⟩ : S44)); (case aB => exact (zo HB)); (case aF => exact (fun k_ hk => ⟨(Nat.le_trans (below_size (zo HB)) hk), Kd.freshB (g := gb182) (o := .cells #[.int .i64 ((rd_T44 l0_1 x23_1).f0), .int .i64 ((rd_T44 l0_1 x23_1).f1)] 44 (0, 0)) (by refine zM ?_; refine blk_put (cs := #[.int .i64 ((rd_T44 l0_1 x23_1).f0), .int .i64 0]) ?_ 1 _ rfl; refine zM ?_; refine blk_put (cs := #[.int .i64 0, .int .i64 0]) ?_ 0 _ rfl; refine zM ?_; exact BK182.out) k_ hk⟩)); (case aO => exact (by (with_reducible repeat (first | apply Kd.R_alloc | apply Kd.R_drewN | apply Kd.R_drew)); exact Kd.R_mono (Kd.R_far (p := ⟨gb182, 1, none⟩) (Kd.R_far (p := ⟨gb182, 0, none⟩) (Kd.R_mono HO_181001.out (fun k_ hk => (⟨hk, hk.2⟩ : _ ∧ k_ ≠ gb182))) (fun _ hk => hk.2) (.int .i64 ((rd_T44 l0_1 x23_1).f0))) (fun _ hk => hk.2) (.int .i64 ((rd_T44 l0_1 x23_1).f1))) (fun _ hk => ⟨hk.1.1, hk.1.2⟩))); (case aS => exact (below_size (zo HB))); (case aL => have := LMc35.out; omega); intro v184 w46 ho hb hg hat; rw [← Ny183.out] at ho; replace HO_21 := zK (Kd.V_afterv (ok := (fun k_ => ((P0_1_ k_ ∨ P2_1_ k_) ∨ w.heap.size ≤ k_) ∧ k_ ≠ gb173 ∧ k_ ≠ gb174 ∧ k_ ≠ gb175 ∧ k_ ≠ gb180 ∧ k_ ≠ gb182)) (by (with_reducible repeat (first | apply vA | apply vN | apply vD)); exact vM (vF (p := ⟨gb182, 1, none⟩) (vF (p := ⟨gb182, 0, none⟩) (vM HO_21.out (fun k_ hk => (⟨hk, hk.2⟩ : _ ∧ k_ ≠ gb182))) (fun _ hk => hk.2) (.int .i64 ((rd_T44 l0_1 x23_1).f0))) (fun _ hk => hk.2) (.int .i64 ((rd_T44 l0_1 x23_1).f1))) (fun _ hk => ⟨⟨hk.1.1.1, ⟨hk.1.1.2.2.1, ⟨hk.1.1.2.2.2.1, ⟨hk.1.1.2.2.2.2.1, ⟨hk.1.1.2.2.2.2.2, hk.1.2⟩⟩⟩⟩⟩, hk.1.1.2.1⟩)) hg hat); replace HO_174001 := zK (Kd.V_afterv (ok := (fun k_ => ((P0_1_ k_ ∨ P2_1_ k_) ∨ w.heap.size ≤ k_) ∧ k_ ≠ gb173 ∧ k_ ≠ gb174 ∧ k_ ≠ gb175 ∧ k_ ≠ gb180 ∧ k_ ≠ gb182)) (by (with_reducible repeat (first | apply vA | apply vN | apply vD)); exact vM (vF (p := ⟨gb182, 1, none⟩) (vF (p := ⟨gb182, 0, none⟩) (vM HO_174001.out (fun k_ hk => (⟨hk, hk.2⟩ : _ ∧ k_ ≠ gb182))) (fun _ hk => hk.2) (.int .i64 ((rd_T44 l0_1 x23_1).f0))) (fun _ hk => hk.2) (.int .i64 ((rd_T44 l0_1 x23_1).f1))) (fun _ hk => ⟨⟨hk.1.1.1, ⟨hk.1.1.2.2.1, ⟨hk.1.1.2.2.2.1, ⟨hk.1.1.2.2.2.2.1, ⟨hk.1.1.2.2.2.2.2, hk.1.2⟩⟩⟩⟩⟩, hk.1.1.2.1⟩)) hg hat); replace HO_175001 := zK (Kd.V_afterv (ok := (fun k_ => ((P0_1_ k_ ∨ P2_1_ k_) ∨ w.heap.size ≤ k_) ∧ k_ ≠ gb173 ∧ k_ ≠ gb174 ∧ k_ ≠ gb175 ∧ k_ ≠ gb180 ∧ k_ ≠ gb182)) (by (with_reducible repeat (first | apply vA | apply vN | apply vD)); exact vM (vF (p := ⟨gb182, 1, none⟩) (vF (p := ⟨gb182, 0, none⟩) (vM HO_175001.out (fun k_ hk => (⟨hk, hk.2⟩ : _ ∧ k_ ≠ gb182))) (fun _ hk => hk.2) (.int .i64 ((rd_T44 l0_1 x23_1).f0))) (fun _ hk => hk.2) (.int .i64 ((rd_T44 l0_1 x23_1).f1))) (fun _ hk => ⟨⟨hk.1.1.1, ⟨hk.1.1.2.2.1, ⟨hk.1.1.2.2.2.1, ⟨hk.1.1.2.2.2.2.1, ⟨hk.1.1.2.2.2.2.2, hk.1.2⟩⟩⟩⟩⟩, hk.1.1.2.1⟩)) hg hat); replace BK173 := zK (blk_grown (g := gb173) (o := .cells #[.int .i64 a0_0, .slice (some ad181) l0_1.length c0_1] 41 (0, 0)) (zb BK173) hg (Kd.R_ne HO_181001.out BK173.out (by decide))); replace BK174 := zK (blk_grown (g := gb174) (o := .cells #[.int .i64 a2_0, .slice A2_1 l2_1.length c2_1] 41 (0, 0)) (zb BK174) hg (Kd.R_ne HO_181001.out BK174.out (by decide))); replace BK175 := zK (blk_grown (g := gb175) (o := .cells #[.int .i64 0, .slice none 0 0] 41 (0, 0)) (zb BK175) hg (Kd.R_ne HO_181001.out BK175.out (by decide))); replace BK180 := zK (blk_grown (g := gb180) (o := .cells #[.int .i64 a0_0, u181001] 41 (0, 0)) (zb BK180) hg (Kd.R_ne HO_181001.out BK180.out (by decide))); replace BK182 := zK (blk_grown (g := gb182) (o := .cells #[.int .i64 ((rd_T44 l0_1 x23_1).f0), .int .i64 ((rd_T44 l0_1 x23_1).f1)] 44 (0, 0)) (by refine zM ?_; refine blk_put (cs := #[.int .i64 ((rd_T44 l0_1 x23_1).f0), .int .i64 0]) ?_ 1 _ rfl; refine zM ?_; refine blk_put (cs := #[.int .i64 0, .int .i64 0]) ?_ 0 _ rfl; refine zM ?_; exact BK182.out) hg (Kd.R_away HO_181001.out (fun _ hk => hk.2))); replace HB := zK (hb); have HO185 := zK (ho); clear HO_181001 ho hb hg hat; obtain ⟨Ao47, co47, eo47⟩ := Kd.R_slice HO185.out; subst eo47; have hcz48_0 := zc0 BK180; have hcz48_1 := zc1 BK180; have hfz48_0 := zfz BK180 0; have hfz48_1 := zfz BK180 1))
         go_roundg k1
         case measure => have := HK1.out; omega
         case rel => exact ⟨(wrap64 (x23_1 + 1)), (y183), (.slice Ao47 y183.length co47), (by first | rfl | (simp; done) | (simp [*]; done)), H', ⟨by have := HK1.out; omega⟩, ⟨by (with_reducible repeat (first | apply vA | apply vN | apply vD)); exact vM (vF (p := ⟨gb180, 1, none⟩) (vM HO_21.out (fun k_ hk => (⟨hk, hk.1.2.2.2.2.1⟩ : _ ∧ k_ ≠ gb180))) (fun _ hk => hk.2) (.slice Ao47 y183.length co47)) (fun _ hk => ⟨hk.1.1.1, ⟨hk.1.2, ⟨hk.1.1.2.1, ⟨hk.1.1.2.2.1, ⟨hk.1.1.2.2.2.1, hk.1.1.2.2.2.2.1⟩⟩⟩⟩⟩)⟩, ⟨by (with_reducible repeat (first | apply vA | apply vN | apply vD)); exact vM (vF (p := ⟨gb180, 1, none⟩) (vM HO_174001.out (fun k_ hk => (⟨hk, hk.1.2.2.2.2.1⟩ : _ ∧ k_ ≠ gb180))) (fun _ hk => hk.2) (.slice Ao47 y183.length co47)) (fun _ hk => ⟨hk.1.1.1, ⟨hk.1.2, ⟨hk.1.1.2.1, ⟨hk.1.1.2.2.1, ⟨hk.1.1.2.2.2.1, hk.1.1.2.2.2.2.1⟩⟩⟩⟩⟩)⟩, ⟨by (with_reducible repeat (first | apply vA | apply vN | apply vD)); exact vM (vF (p := ⟨gb180, 1, none⟩) (vM HO_175001.out (fun k_ hk => (⟨hk, hk.1.2.2.2.2.1⟩ : _ ∧ k_ ≠ gb180))) (fun _ hk => hk.2) (.slice Ao47 y183.length co47)) (fun _ hk => ⟨hk.1.1.1, ⟨hk.1.2, ⟨hk.1.1.2.1, ⟨hk.1.1.2.2.1, ⟨hk.1.1.2.2.2.1, hk.1.1.2.2.2.2.1⟩⟩⟩⟩⟩)⟩, ⟨by (with_reducible repeat (first | apply Kd.R_alloc | apply Kd.R_drewN | apply Kd.R_drew)); exact Kd.R_mono (Kd.R_far (p := ⟨gb180, 1, none⟩) (Kd.R_types HO185.out BK180.out (by decide)) (fun _ hk => hk.2) (.slice Ao47 y183.length co47)) (fun _ hk => hk.1.1)⟩, ⟨zb BK173⟩, ⟨zb BK174⟩, ⟨zb BK175⟩, ⟨by refine zM ?_; refine blk_put (cs := #[.int .i64 a0_0, u181001]) ?_ 1 _ rfl; refine zM ?_; exact BK180.out⟩, ⟨zo HB⟩⟩
        ·rw [if_neg c35] at H
         exact absurd H (by simp)
      ·rw [if_neg c27] at H
       exact absurd H (by simp)
     ·rw [if_neg c26] at H
      exact absurd H (by simp)
    ·rw [if_neg c25] at H
     have c25b0 : decide (x23_1 < (l0_1.length : Int)) = false := decide_eq_false c25
     clear c25; replace H := zob H
     obtain ⟨t186, A490, H⟩ := H
     replace H : ((lin_sum.f (([(⟨(⟨a0_0, x181001_1⟩ : S41), 1⟩ : S75), (⟨(⟨a2_0, l2_1⟩ : S41), t186⟩ : S75)] : List (S75)))).bind fun bt190 => (some (bt190.1, bt190.2.1, bt190.2.2))) = some (r1, r2, r3) := H
     have A49 := zK A490; clear A490
     obtain ⟨y187, hy187⟩ : ∃ y_ : List (S75), y_ = (([(⟨(⟨a0_0, x181001_1⟩ : S41), 1⟩ : S75), (⟨(⟨a2_0, l2_1⟩ : S41), t186⟩ : S75)] : List (S75))) := ⟨_, rfl⟩
     replace H : ((lin_sum.f y187).bind fun bt190 => (some (bt190.1, bt190.2.1, bt190.2.2))) = some (r1, r2, r3) := by first | (rw [hy187]; with_reducible exact H) | (have H2_ := (Option.bind_some _ _).symm.trans H; rw [hy187]; with_reducible exact H2_) | (have H2_ := (Option.bind_some _ _).symm.trans H; with_reducible exact H2_) | with_reducible exact H | (rw [hy187]; exact H) | exact H
     have Ny187 := zK hy187; clear hy187; replace H := zob H
     obtain ⟨⟨t190, t191, t194⟩, A500, H⟩ := H
     replace H : (some (t190, t191, t194)) = some (r1, r2, r3) := H
     have A50 := zK A500; clear A500
     simp only [Option.some.injEq, Prod.mk.injEq] at H
     obtain ⟨rfl, rfl, rfl⟩ := H
     try go_wp2
     replace HO_21 := zK (vD HO_21.out)
     replace HO_174001 := zK (vD HO_174001.out)
     replace HO_175001 := zK (vD HO_175001.out)
     replace HO_181001 := zK (Kd.R_drew HO_181001.out)
     replace BK173 := zK (zD BK173.out)
     replace BK174 := zK (zD BK174.out)
     replace BK175 := zK (zD BK175.out)
     replace BK180 := zK (zD BK180.out)
     replace HB := zK (yD HB.out)
     obtain ⟨Ao52, co52, eo52⟩ := Kd.R_slice HO_181001.out
     (first | subst eo52 | (injection eo52 with f1_ f2_ f3_; have f4_ := f1_.symm; have f5_ := f3_.symm; clear f1_ f2_ f3_; subst f4_; subst f5_))
     refine start_ (n := 13) (S := fun w' => w'.cell? ⟨gb180, 0, none⟩ = some (.int .i64 a0_0) ∧ w'.cell? ⟨gb180, 1, none⟩ = some (.slice Ao52 x181001_1.length co52) ∧ w'.cell? ⟨gb174, 0, none⟩ = some (.int .i64 a2_0) ∧ w'.cell? ⟨gb174, 1, none⟩ = some (.slice A2_1 l2_1.length c2_1) ∧ w'.cell? ⟨gb173, 0, none⟩ = some (.int .i64 a0_0) ∧ w'.cell? ⟨gb173, 1, none⟩ = some (.slice A0_1 l0_1.length c0_1)) (ds := []) #[F_,F_,F_,F_,F_,F_,F_,F_,F_,F_,F_,F_,F_] (by kernel_rfl) rfl rfl ⟨(blk_cell BK180.out 0).trans rfl, (blk_cell BK180.out 1).trans rfl, (blk_cell BK174.out 0).trans rfl, (blk_cell BK174.out 1).trans rfl, (blk_cell BK173.out 0).trans rfl, (blk_cell BK173.out 1).trans rfl⟩ (fun hHeld => ?_); refine with_tabW lin_Put.tab10 lin_Put.bits10 (fun HT_ HW_ => ?_)
     generalize wr.drew = w51 at HO_21 HO_174001 HO_175001 HO_181001 BK173 BK174 BK175 BK180 HB hHeld ⊢
     refine zPu 4 42 #[F_,F_,F_,F_,T_,F_,F_,F_,F_,F_,F_,F_,F_] ?_
     refine zTk 0 38 #[T_,F_,F_,F_,T_,F_,F_,F_,F_,F_,F_,F_,F_] ?_
     refine zPu 1 39 #[T_,T_,F_,F_,T_,F_,F_,F_,F_,F_,F_,F_,F_] ?_
     refine zTk 2 40 #[T_,T_,T_,F_,T_,F_,F_,F_,F_,F_,F_,F_,F_] ?_
     refine zTk 3 41 #[T_,T_,T_,T_,T_,F_,F_,F_,F_,F_,F_,F_,F_] ?_
     refine one_ (i := 5) (N := some 43) #[T_,T_,T_,T_,T_,T_,F_,F_,F_,F_,F_,F_,F_] rfl rfl (one_of HT_.out (by kernel_rfl)) (by decide) (fun K hK => ?_)
     refine goes_ Try.func57 (by kernel_rfl) rfl #[.agg #[.int .i64 a0_0, .slice A0_1 l0_1.length c0_1], .int .i64 a1] (by rfl) rfl rfl (by (try simp only [List.map_toArray, List.map_cons, List.map_nil]); first | done | rfl | (simp only [List.length_drop, List.length_take]; rfl)) ?_
     with_reducible refine (lin_By.calls k1 a0_0 _ _ l0_1 a1 t186 _ ?side1 ?side2 A49.out).mono ?_
     (case side1 => repeat (first | exact (Kd.V_reads' HO_174001.out).2.2 | (with_reducible refine cA ?_ _) | (with_reducible refine cN ?_ _) | (with_reducible refine cD ?_)))
     (case side2 => exact (Kd.V_reads' HO_174001.out).2.1)
     rintro e w53 ⟨rfl, hb⟩
     refine ⟨_, rfl, ?_⟩
     replace HO_21 := zK (Kd.V_below (zv HO_21) hb)
     replace HO_174001 := zK (Kd.V_below (zv HO_174001) hb)
     replace HO_175001 := zK (Kd.V_below (zv HO_175001) hb)
     replace HO_181001 := zK (Kd.R_below (zr HO_181001) hb)
     replace BK173 := zbb BK173 hb
     replace BK174 := zbb BK174 hb
     replace BK175 := zbb BK175 hb
     replace BK180 := zbb BK180 hb
     replace HB := zst HB hb
     (try clear hb); (try clear hb2); (try clear hk); (try clear hi)
     refine hK.out _ _ ⟨(blk_cell BK180.out 0).trans rfl, (blk_cell BK180.out 1).trans rfl, (blk_cell BK174.out 0).trans rfl, (blk_cell BK174.out 1).trans rfl, (blk_cell BK173.out 0).trans rfl, (blk_cell BK173.out 1).trans rfl⟩ (fun hHeld => ?_)
     clear hK K
     refine zNm 43 ?_
     refine zPu 6 44 #[T_,T_,T_,T_,T_,T_,T_,F_,F_,F_,F_,F_,F_] ?_
     refine one_ (i := 7) (N := some 45) #[T_,T_,T_,T_,T_,T_,T_,T_,F_,F_,F_,F_,F_] rfl rfl (one_of HT_.out (by kernel_rfl)) (by decide) (fun K hK => ?_)
     refine Kd.N_lit_step k75 _ 75 ?hg (N' := 45) ?hd (xs := ([(⟨(⟨a0_0, x181001_1⟩ : S41), 1⟩ : S75), (⟨(⟨a2_0, l2_1⟩ : S41), t186⟩ : S75)] : List (S75))) (inner := [.int .i64 a0_0, .slice Ao52 x181001_1.length co52, .int .i64 1, .int .i64 a2_0, .slice A2_1 l2_1.length c2_1, .int .i64 t186]) (ok := (fun k_ => ((P0_1_ k_ ∨ P2_1_ k_) ∨ w.heap.size ≤ k_) ∧ k_ ≠ gb173 ∧ k_ ≠ gb174 ∧ k_ ≠ gb175 ∧ k_ ≠ gb180)) (okp := (fun k_ => ((P0_1_ k_ ∨ P2_1_ k_) ∨ w.heap.size ≤ k_) ∧ k_ ≠ gb173 ∧ k_ ≠ gb174 ∧ k_ ≠ gb175 ∧ k_ ≠ gb180)) ?hr ?hp (fun _ hk => hk) ((show ∀ k_, w53.heap.size ≤ k_ → (fun k_ => ((P0_1_ k_ ∨ P2_1_ k_) ∨ w.heap.size ≤ k_) ∧ k_ ≠ gb173 ∧ k_ ≠ gb174 ∧ k_ ≠ gb175 ∧ k_ ≠ gb180) k_ from fun k_ hk => ⟨(.inr (Nat.le_trans (below_size (zo HB)) hk)), Kd.freshB (g := gb173) (o := .cells #[.int .i64 a0_0, .slice A0_1 l0_1.length c0_1] 41 (0, 0)) (zb BK173) k_ hk, Kd.freshB (g := gb174) (o := .cells #[.int .i64 a2_0, .slice A2_1 l2_1.length c2_1] 41 (0, 0)) (zb BK174) k_ hk, Kd.freshB (g := gb175) (o := .cells #[.int .i64 0, .slice none 0 0] 41 (0, 0)) (zb BK175) k_ hk, Kd.freshB (g := gb180) (o := .cells #[.int .i64 a0_0, .slice Ao52 x181001_1.length co52] 41 (0, 0)) (zb BK180) k_ hk⟩) _ (Nat.le_refl _)) (Below.refl _ _) (Nat.le_refl _) (by simp) ?_; (case hd => rfl); (case hg => rfl); (case hr => first | (go_simp; done) | (go_simp; rfl)); (case hp => exact (Reps.c3 (show Kd.FK k75 _ _ (⟨(⟨a0_0, x181001_1⟩ : S41), 1⟩ : S75) [.int .i64 a0_0, .slice Ao52 x181001_1.length co52, .int .i64 1] from (k75_mkF _ _ (⟨(⟨a0_0, x181001_1⟩ : S41), 1⟩ : S75) (Kd.R_reads' (Kd.R_mono (ok' := (fun k_ => ((P0_1_ k_ ∨ P2_1_ k_) ∨ w.heap.size ≤ k_) ∧ k_ ≠ gb173 ∧ k_ ≠ gb174 ∧ k_ ≠ gb175 ∧ k_ ≠ gb180)) (Kd.R_types (Kd.R_types (Kd.R_types (Kd.R_types (HO_181001.out) BK173.out (by decide)) BK174.out (by decide)) BK175.out (by decide)) BK180.out (by decide)) (fun k_ hk => ⟨(.inr (hk.1.1.1.1)), ⟨hk.1.1.1.2, ⟨hk.1.1.2, ⟨hk.1.2, hk.2⟩⟩⟩⟩))).2.1 (Kd.R_F (Kd.R_mono (ok' := (fun k_ => ((P0_1_ k_ ∨ P2_1_ k_) ∨ w.heap.size ≤ k_) ∧ k_ ≠ gb173 ∧ k_ ≠ gb174 ∧ k_ ≠ gb175 ∧ k_ ≠ gb180)) (Kd.R_types (Kd.R_types (Kd.R_types (Kd.R_types (HO_181001.out) BK173.out (by decide)) BK174.out (by decide)) BK175.out (by decide)) BK180.out (by decide)) (fun k_ hk => ⟨(.inr (hk.1.1.1.1)), ⟨hk.1.1.1.2, ⟨hk.1.1.2, ⟨hk.1.2, hk.2⟩⟩⟩⟩))))) (Reps.c3 (show Kd.FK k75 _ _ (⟨(⟨a2_0, l2_1⟩ : S41), t186⟩ : S75) [.int .i64 a2_0, .slice A2_1 l2_1.length c2_1, .int .i64 t186] from (k75_mkF _ _ (⟨(⟨a2_0, l2_1⟩ : S41), t186⟩ : S75) (Kd.V_reads' (vM (ok' := (fun k_ => ((P0_1_ k_ ∨ P2_1_ k_) ∨ w.heap.size ≤ k_) ∧ k_ ≠ gb173 ∧ k_ ≠ gb174 ∧ k_ ≠ gb175 ∧ k_ ≠ gb180)) (HO_175001.out) (fun k_ hk => ⟨hk.1, ⟨hk.2.2.1, ⟨hk.2.2.2.1, ⟨hk.2.2.2.2.1, hk.2.2.2.2.2⟩⟩⟩⟩))).2.1 (Kd.V_F (vM (ok' := (fun k_ => ((P0_1_ k_ ∨ P2_1_ k_) ∨ w.heap.size ≤ k_) ∧ k_ ≠ gb173 ∧ k_ ≠ gb174 ∧ k_ ≠ gb175 ∧ k_ ≠ gb180)) (HO_175001.out) (fun k_ hk => ⟨hk.1, ⟨hk.2.2.1, ⟨hk.2.2.2.1, ⟨hk.2.2.2.2.1, hk.2.2.2.2.2⟩⟩⟩⟩))))) (Reps.none _ _))))
     intro v188 w54 ho55 hb hg_ hnew_
     clear hg_ hnew_
     (first | rw [← Ny187.out] at ho55 | (simp only [Int.reduceToNat] at ho55; rw [← Ny187.out] at ho55))
     replace HO_21 := zK (Kd.V_elder' (zv HO_21) (Kd.N_base ho55) hb)
     replace HO_174001 := zK (Kd.V_elder' (zv HO_174001) (Kd.N_base ho55) hb)
     replace HO_175001 := zK (Kd.V_elder' (zv HO_175001) (Kd.N_base ho55) hb)
     have HO189 := zK (Kd.N_lower ho55 (below_size (zo HB)))
     replace BK173 := zbb BK173 hb
     replace BK174 := zbb BK174 hb
     replace BK175 := zbb BK175 hb
     replace BK180 := zbb BK180 hb
     replace HB := zst HB hb; clear HO_181001 hb ho55
     obtain ⟨Ao56, co56, eo56⟩ := Kd.N_slice HO189.out
     (first | subst eo56 | (injection eo56 with f1_ f2_ f3_; have f4_ := f1_.symm; have f5_ := f3_.symm; clear f1_ f2_ f3_; subst f4_; subst f5_))
     refine hK.out _ _ ⟨(blk_cell BK180.out 0).trans rfl, (blk_cell BK180.out 1).trans rfl, (blk_cell BK174.out 0).trans rfl, (blk_cell BK174.out 1).trans rfl, (blk_cell BK173.out 0).trans rfl, (blk_cell BK173.out 1).trans rfl⟩ (fun hHeld => ?_)
     clear hK K
     refine zNm 45 ?_
     refine one_ (i := 8) (N := some 46) #[T_,T_,T_,T_,T_,T_,T_,T_,T_,F_,F_,F_,F_] rfl rfl (one_of HT_.out (by kernel_rfl)) (by decide) (fun K hK => ?_)
     refine goes_ Try.func35 (by kernel_rfl) rfl #[.slice Ao56 y187.length co56] (by rfl) rfl rfl (by (try simp only [List.map_toArray, List.map_cons, List.map_nil]); first | done | rfl | (simp only [List.length_drop, List.length_take]; rfl)) ?_
     with_reducible refine (lin_sum.calls _ _ y187 t190 t191 t194 _ ?side1 ?side2 A50.out).mono ?_
     (case side1 => repeat (first | exact (Kd.N_reads' HO189.out).2.2 | (with_reducible refine cA ?_ _) | (with_reducible refine cN ?_ _) | (with_reducible refine cD ?_)))
     (case side2 => exact (Kd.N_reads' HO189.out).2.1)
     rintro e w57 ⟨v192, rfl, ho0, hb⟩
     refine ⟨_, rfl, ?_⟩
     replace HO_21 := zK (Kd.V_elder' (zv HO_21) (Kd.R_base ho0) hb)
     replace HO_174001 := zK (Kd.V_elder' (zv HO_174001) (Kd.R_base ho0) hb)
     replace HO_175001 := zK (Kd.V_elder' (zv HO_175001) (Kd.R_base ho0) hb)
     replace HO189 := zK (Kd.N_elder' (zn HO189) (Kd.R_base ho0) hb)
     have HO193 := zK (Kd.R_lower (Kd.R_newM (M := fun k_ => (w.heap.size ≤ k_)) ho0 (below_size (zo HB)) (fun k_ h_ => h_)) (below_size (zo HB)))
     replace BK173 := zbb BK173 hb
     replace BK174 := zbb BK174 hb
     replace BK175 := zbb BK175 hb
     replace BK180 := zbb BK180 hb
     replace HB := zst HB hb
     (try clear hb); (try clear hb2); (try clear hk); (try clear hi)
     (try clear ho0)
     obtain ⟨Ao59, co59, eo59⟩ := Kd.R_slice HO193.out
     (first | subst eo59 | (injection eo59 with f1_ f2_ f3_; have f4_ := f1_.symm; have f5_ := f3_.symm; clear f1_ f2_ f3_; subst f4_; subst f5_))
     refine hK.out _ _ ⟨(blk_cell BK180.out 0).trans rfl, (blk_cell BK180.out 1).trans rfl, (blk_cell BK174.out 0).trans rfl, (blk_cell BK174.out 1).trans rfl, (blk_cell BK173.out 0).trans rfl, (blk_cell BK173.out 1).trans rfl⟩ (fun hHeld => ?_)
     clear hK K
     refine zNm 46 ?_
     refine zPu 9 47 #[T_,T_,T_,T_,T_,T_,T_,T_,T_,T_,F_,F_,F_] ?_
     refine zPu 10 48 #[T_,T_,T_,T_,T_,T_,T_,T_,T_,T_,T_,F_,F_] ?_
     refine one_ (i := 11) (N := none) #[T_,T_,T_,T_,T_,T_,T_,T_,T_,T_,T_,T_,F_] rfl rfl (one_of HT_.out (by kernel_rfl)) (by decide) (fun K hK => ?_)
     have hs58 := zc0 BK175
     have hfs58 := zfz BK175 0
     have hns58_0 := NB173_175.out
     have hns58_1 := NB174_175.out
     have hns58_3 := NB180_175.out
     have hms58_0 := NB175_173.out
     have hms58_1 := NB175_174.out
     have hms58_3 := NB175_180.out
     have hs60 := zc1 BK175
     have hfs60 := zfz BK175 1
     have hns60_0 := NB173_175.out
     have hns60_1 := NB174_175.out
     have hns60_3 := NB180_175.out
     have hms60_0 := NB175_173.out
     have hms60_1 := NB175_174.out
     have hms60_3 := NB175_180.out
     refine skip_ (w1 := ?_) (by rfl) rfl ?_ ?_
     rotate_left
     ·go_simp
      rfl
     refine hK.out _ _ ⟨((cell_far (p := ⟨gb175, _, none⟩) NB180_175.out _).trans (((cell_far (p := ⟨gb175, _, none⟩) NB180_175.out _).trans (hHeld.1)))), ((cell_far (p := ⟨gb175, _, none⟩) NB180_175.out _).trans (((cell_far (p := ⟨gb175, _, none⟩) NB180_175.out _).trans (hHeld.2.1)))), ((cell_far (p := ⟨gb175, _, none⟩) NB174_175.out _).trans (((cell_far (p := ⟨gb175, _, none⟩) NB174_175.out _).trans (hHeld.2.2.1)))), ((cell_far (p := ⟨gb175, _, none⟩) NB174_175.out _).trans (((cell_far (p := ⟨gb175, _, none⟩) NB174_175.out _).trans (hHeld.2.2.2.1)))), ((cell_far (p := ⟨gb175, _, none⟩) NB173_175.out _).trans (((cell_far (p := ⟨gb175, _, none⟩) NB173_175.out _).trans (hHeld.2.2.2.2.1)))), ((cell_far (p := ⟨gb175, _, none⟩) NB173_175.out _).trans (((cell_far (p := ⟨gb175, _, none⟩) NB173_175.out _).trans (hHeld.2.2.2.2.2))))⟩ (fun hHeld => ?_)
     clear hK K
     refine zPu 12 7 #[T_,T_,T_,T_,T_,T_,T_,T_,T_,T_,T_,T_,T_] ?_
     refine done_ (done_of HT_.out (by kernel_rfl)) ?_
     try go_wp2
     refine bodyPost_ret (results_ct rfl _ _ gb175 41 #[.int .i64 t190, .slice Ao59 t191.length co59] (0, 0) _ rfl (by refine zM ?_; refine blk_put (cs := #[.int .i64 t190, .slice none 0 0]) ?_ 1 _ rfl; refine zM ?_; refine blk_put (cs := #[.int .i64 0, .slice none 0 0]) ?_ 0 _ rfl; refine zM ?_; exact BK175.out) Try.underlying41 rfl (by kernel_rfl)) rfl ?_
     exact ⟨_, by first | rfl | (simp [errW_none, errW_some] <;> rfl) | (simp [*, errW_none, errW_some] <;> rfl), by (with_reducible repeat (first | apply Kd.R_alloc | apply Kd.R_drewN | apply Kd.R_drew)); exact Kd.R_mono (Kd.R_far (p := ⟨gb175, 1, none⟩) (Kd.R_far (p := ⟨gb175, 0, none⟩) (Kd.R_types HO193.out BK175.out (by decide)) (fun _ hk => hk.2) (.int .i64 t190)) (fun _ hk => hk.2) (.slice Ao59 t191.length co59)) (fun _ hk => hk.1.1), zo HB⟩
 ·replace c5 := Bool.eq_false_iff.mpr c5
  subst c5
  have H1 : (some (0, ([] : List (S44)), 1)) = some (r1, r2, r3) := by rw [if_neg (show ¬ (false = true) by decide)] at H; exact H
  clear H; have H := H1; clear H1
  simp only [Option.some.injEq, Prod.mk.injEq] at H
  obtain ⟨rfl, rfl, rfl⟩ := H
  go_enter Try.func60, Try.ntmps60
  go_wp2_with (first | ((with_reducible refine gate_dst (N := 3) rfl ?_); refine zBox (cs := #[.int .i64 a0_0, .slice A0_1 l0_1.length c0_1]) (t := 41) ?_; intro gb173 hg w61 hbox hb; replace HO0_1 := zK (Kd.V_below (Kd.V_elderB (zv HO0_1) gb173 (Nat.le_of_eq hg.symm)) hb); replace HO2_1 := zK (Kd.V_below (Kd.V_elderB (zv HO2_1) gb173 (Nat.le_of_eq hg.symm)) hb); have BK173 := zK (hbox); have GW173 := zK ((by rw [hg]; exact (below_size (zo HB)) : w.heap.size ≤ gb173)); replace HB := zst HB hb; clear hb hbox hg) | ((with_reducible refine gate_dst (N := 5) rfl ?_); refine zBox (cs := #[.int .i64 a2_0, .slice A2_1 l2_1.length c2_1]) (t := 41) ?_; intro gb174 hg w62 hbox hb; replace HO0_1 := zK (Kd.V_below (Kd.V_elderB (zv HO0_1) gb174 (Nat.le_of_eq hg.symm)) hb); replace HO2_1 := zK (Kd.V_below (Kd.V_elderB (zv HO2_1) gb174 (Nat.le_of_eq hg.symm)) hb); have BK174 := zK (hbox); have GW174 := zK ((by rw [hg]; exact (below_size (zo HB)) : w.heap.size ≤ gb174)); replace HB := zst HB hb; have NB173_174 := zn1 BK173 hg; have NB174_173 := zn2 BK173 hg; replace BK173 := zbb BK173 hb; clear hb hbox hg) | ((with_reducible refine gate_dst (N := 6) rfl ?_); refine zBox (cs := #[.int .i64 0, .slice none 0 0]) (t := 41) ?_; intro gb175 hg w63 hbox hb; replace HO0_1 := zK (Kd.V_below (Kd.V_elderB (zv HO0_1) gb175 (Nat.le_of_eq hg.symm)) hb); replace HO2_1 := zK (Kd.V_below (Kd.V_elderB (zv HO2_1) gb175 (Nat.le_of_eq hg.symm)) hb); have BK175 := zK (hbox); have GW175 := zK ((by rw [hg]; exact (below_size (zo HB)) : w.heap.size ≤ gb175)); replace HB := zst HB hb; have NB173_175 := zn1 BK173 hg; have NB175_173 := zn2 BK173 hg; replace BK173 := zbb BK173 hb; have NB174_175 := zn1 BK174 hg; have NB175_174 := zn2 BK174 hg; replace BK174 := zbb BK174 hb; clear hb hbox hg; have hnb64 := NB173_174.out; have hnc64 := NB174_173.out; have hnb65 := NB173_175.out; have hnc65 := NB175_173.out; have hcz66_0 := zc0 BK173; have hcz66_1 := zc1 BK173; have hfz66_0 := zfz BK173 0; have hfz66_1 := zfz BK173 1; have hnb67 := NB174_175.out; have hnc67 := NB175_174.out; have hcz68_0 := zc0 BK174; have hcz68_1 := zc1 BK174; have hfz68_0 := zfz BK174 0; have hfz68_1 := zfz BK174 1) | ((with_reducible refine gate_dst (N := 13) rfl ?_); refine Kd.N_lit k41 _ 41 ?hg (N' := 13) ?hd (xs := ([(⟨a0_0, l0_1⟩ : S41), (⟨a2_0, l2_1⟩ : S41)] : List (S41))) (inner := [.int .i64 a0_0, .slice A0_1 l0_1.length c0_1, .int .i64 a2_0, .slice A2_1 l2_1.length c2_1]) (ok := (fun k_ => ((P0_1_ k_ ∨ P2_1_ k_) ∨ w.heap.size ≤ k_) ∧ k_ ≠ gb173 ∧ k_ ≠ gb174 ∧ k_ ≠ gb175)) (okp := (fun k_ => ((P0_1_ k_ ∨ P2_1_ k_) ∨ w.heap.size ≤ k_) ∧ k_ ≠ gb173 ∧ k_ ≠ gb174 ∧ k_ ≠ gb175)) ?hr ?hp (fun _ hk => hk) ((show ∀ k_, w63.heap.size ≤ k_ → (fun k_ => ((P0_1_ k_ ∨ P2_1_ k_) ∨ w.heap.size ≤ k_) ∧ k_ ≠ gb173 ∧ k_ ≠ gb174 ∧ k_ ≠ gb175) k_ from fun k_ hk => ⟨(.inr (Nat.le_trans (below_size (zo HB)) hk)), Kd.freshB (g := gb173) (o := .cells #[.int .i64 a0_0, .slice A0_1 l0_1.length c0_1] 41 (0, 0)) (zb BK173) k_ hk, Kd.freshB (g := gb174) (o := .cells #[.int .i64 a2_0, .slice A2_1 l2_1.length c2_1] 41 (0, 0)) (zb BK174) k_ hk, Kd.freshB (g := gb175) (o := .cells #[.int .i64 0, .slice none 0 0] 41 (0, 0)) (zb BK175) k_ hk⟩) _ (Nat.le_refl _)) (Below.refl _ _) (Nat.le_refl _) (by simp) ?_; (case hd => rfl); (case hg => rfl); (case hr => first | (go_simp; done) | (go_simp; rfl)); (case hp => exact (Reps.c2 (show Kd.FK k41 _ _ (⟨a0_0, l0_1⟩ : S41) [.int .i64 a0_0, .slice A0_1 l0_1.length c0_1] from (k41_mkF _ _ (⟨a0_0, l0_1⟩ : S41) (Kd.V_reads' (vM (ok' := (fun k_ => ((P0_1_ k_ ∨ P2_1_ k_) ∨ w.heap.size ≤ k_) ∧ k_ ≠ gb173 ∧ k_ ≠ gb174 ∧ k_ ≠ gb175)) (HO0_1.out) (fun k_ hk => ⟨hk.1.1.1, ⟨hk.1.1.2, ⟨hk.1.2, hk.2⟩⟩⟩))).2.1 (Kd.V_F (vM (ok' := (fun k_ => ((P0_1_ k_ ∨ P2_1_ k_) ∨ w.heap.size ≤ k_) ∧ k_ ≠ gb173 ∧ k_ ≠ gb174 ∧ k_ ≠ gb175)) (HO0_1.out) (fun k_ hk => ⟨hk.1.1.1, ⟨hk.1.1.2, ⟨hk.1.2, hk.2⟩⟩⟩))))) (Reps.c2 (show Kd.FK k41 _ _ (⟨a2_0, l2_1⟩ : S41) [.int .i64 a2_0, .slice A2_1 l2_1.length c2_1] from (k41_mkF _ _ (⟨a2_0, l2_1⟩ : S41) (Kd.V_reads' (vM (ok' := (fun k_ => ((P0_1_ k_ ∨ P2_1_ k_) ∨ w.heap.size ≤ k_) ∧ k_ ≠ gb173 ∧ k_ ≠ gb174 ∧ k_ ≠ gb175)) (HO2_1.out) (fun k_ hk => ⟨hk.1.1.1, ⟨hk.1.1.2, ⟨hk.1.2, hk.2⟩⟩⟩))).2.1 (Kd.V_F (vM (ok' := (fun k_ => ((P0_1_ k_ ∨ P2_1_ k_) ∨ w.heap.size ≤ k_) ∧ k_ ≠ gb173 ∧ k_ ≠ gb174 ∧ k_ ≠ gb175)) (HO2_1.out) (fun k_ hk => ⟨hk.1.1.1, ⟨hk.1.1.2, ⟨hk.1.2, hk.2⟩⟩⟩))))) (Reps.none _ _)))); intro v177 w69 ho70 hb hg_ hnew_; clear hg_ hnew_; (first | rw [← Ny176.out] at ho70 | (simp only [Int.reduceToNat] at ho70; rw [← Ny176.out] at ho70)); replace HO0_1 := zK (Kd.V_elder' (zv HO0_1) (Kd.N_base ho70) hb); replace HO2_1 := zK (Kd.V_elder' (zv HO2_1) (Kd.N_base ho70) hb); have HO178 := zK (Kd.N_lower ho70 (below_size (zo HB))); replace BK173 := zbb BK173 hb; replace BK174 := zbb BK174 hb; replace BK175 := zbb BK175 hb; replace HB := zst HB hb; clear hb ho70; obtain ⟨Ao71, co71, eo71⟩ := Kd.N_slice HO178.out; subst eo71) | ((with_reducible refine zC (f := 32) rfl ?_); refine zGo (some 14) Try.func32 #[.slice Ao71 y176.length co71] ?_; (with_reducible refine (lin_right.calls k _ _ y176 false _ ?side1 ?side2 A4.out).mono ?_); (case side1 => repeat (first | exact (Kd.N_reads' HO178.out).2.2 | (with_reducible refine cA ?_ _) | (with_reducible refine cN ?_ _) | (with_reducible refine cD ?_))); (case side2 => exact (Kd.N_reads' HO178.out).2.1); rintro e w72 ⟨rfl, hb⟩; refine ⟨_, rfl, ?_⟩; replace HO0_1 := zK (Kd.V_below (zv HO0_1) hb); replace HO2_1 := zK (Kd.V_below (zv HO2_1) hb); replace HO178 := zK (Kd.N_below (zn HO178) hb); replace BK173 := zbb BK173 hb; replace BK174 := zbb BK174 hb; replace BK175 := zbb BK175 hb; replace HB := zst HB hb; clear hb; have hcz73_0 := zc0 BK175; have hcz73_1 := zc1 BK175; have hfz73_0 := zfz BK175 0; have hfz73_1 := zfz BK175 1))
  refine bodyPost_ret (results_ct rfl _ _ gb175 41 #[.int .i64 0, .slice none 0 0] (0, 0) _ rfl (by refine zM ?_; refine blk_put (cs := #[.int .i64 0, .slice none 0 0]) ?_ 1 _ rfl; refine zM ?_; refine blk_put (cs := #[.int .i64 0, .slice none 0 0]) ?_ 0 _ rfl; refine zM ?_; exact BK175.out) Try.underlying41 rfl (by kernel_rfl)) rfl ?_
  exact ⟨_, zR (h := zL (h := zo HB))⟩

/-! ### num_twos: function 79 -/
def num_twos.l0 : Nat → Int → Int → Option (Int)
 | 0, _, _ => none
 | k + 1, x0, x4 => if x4 < 64 then (if 0 ≤ x4 then (if (Go.bits .and .u64 (shr .u64 x0 x4) 1) = 1 then (some x4) else (num_twos.l0 k x0 (wrap64 (x4 + 1)))) else (none)) else (some 64)
def num_twos.f (k : Nat) (a0 : Int) : Option (Int) := num_twos.l0 k a0 0
theorem num_twos.mono_l : ∀ k, (∀ y0 y1, LeO (num_twos.l0 k y0 y1) (num_twos.l0 (k + 1) y0 y1))
 | 0 => fun _ _ r h => by simp [num_twos.l0] at h
 | k + 1 => by
  have ih0 := num_twos.mono_l k
  ·intro y0 y1
   unfold num_twos.l0
   repeat' first | (with_reducible first | exact ih0 .. | exact LeO.refl _ | exact LeO.none _ | refine LeO.ite ?_ ?_ | refine LeO.bind ?_ (fun _ => ?_)) | exact ih0 .. | exact LeO.none _ | refine LeO.ite ?_ ?_ | refine LeO.bind ?_ (fun _ => ?_)
theorem num_twos.mono : ∀ a0 k, LeO (num_twos.f k a0) (num_twos.f (k + 1) a0) := by
 intro a0 k
 have ih0 := num_twos.mono_l k
 unfold num_twos.f
 repeat' first | (with_reducible first | exact ih0 .. | exact LeO.refl _ | exact LeO.none _ | refine LeO.ite ?_ ?_ | refine LeO.bind ?_ (fun _ => ?_)) | exact ih0 .. | exact LeO.none _ | refine LeO.ite ?_ ?_ | refine LeO.bind ?_ (fun _ => ?_)
theorem num_twos.calls (k : Nat) (a0 : Int) (r : Int) (w : World) (h : num_twos.f k a0 = some r) :
  Calls Try.prog 79 #[.int .u64 a0] w fun e w' => e = .returned (.int .i64 r) ∧ Drawn0 w w' := by
 have H : (num_twos.l0 k a0 0) = some r := h; clear h
 have H' := zK H; clear H
 go_enter Try.func79, Try.ntmps79
 go_wp2
 go_loopg [4] k (fun kq v4 w' => ∃ (x4_1 : Int), v4 = .int .i64 x4_1 ∧ Aside0 (num_twos.l0 kq a0 x4_1 = some r) ∧ Aside0 (kq ≤ k) ∧ Drawn0 w w')
 case atStart => exact ⟨(0), (by first | rfl | (simp; done) | (simp [*]; done)), H', ⟨Nat.le_refl _⟩, by repeat (first | exact Drawn0.refl _ | apply Drawn0.step)⟩
 case round =>
  clear H'
  obtain ⟨x4_1, rfl, HA, HK1, ⟨m1, rfl⟩⟩ := hrel
  cases gk with
  | zero => exact absurd HA.out (by simp [num_twos.l0])
  | succ k1 =>
   have H := HA.out; clear HA
   simp only [num_twos.l0] at H
   by_cases c2 : x4_1 < 64
   ·rw [if_pos c2] at H
    have c2b0 : decide (x4_1 < 64) = true := decide_eq_true c2; clear c2
    by_cases c3 : 0 ≤ x4_1
    ·rw [if_pos c3] at H
     have c3b0 := eq_true c3
     have c3b1 : decide (0 ≤ x4_1) = true := decide_eq_true c3; clear c3
     obtain ⟨ji4, hji4⟩ : ∃ j_ : Int, (shr .u64 a0 x4_1) = j_ := ⟨_, rfl⟩
     replace H : (if (Go.bits .and .u64 (ji4) 1) = 1 then (some x4_1) else (num_twos.l0 k1 a0 (wrap64 (x4_1 + 1)))) = some r := by first | (rw [hji4] at H; exact H) | (simp only [hji4] at H ⊢; exact H)
     have hji4_ : (a0 / 2 ^ min x4_1.toNat 64) = ji4 := hji4
     have hji4z : x4_1 ≤ 64 → (a0 / 2 ^ x4_1.toNat) = ji4 := shr_small hji4
     by_cases c5 : (Go.bits .and .u64 (ji4) 1) = 1
     ·rw [if_pos c5] at H
      have c5b0 : ((Go.bits .and .u64 (ji4) 1) == 1) = true := beq_iff_eq.mpr c5
      have c5b1 : ((Go.bits .and .u64 (ji4) 1) != 1) = false := bne_eq_false_iff_eq.mpr c5
      clear c5
      obtain rfl := Option.some.inj H
      go_wp2
      go_ret
      exact ⟨by first | rfl | (simp; done) | (simp only [← hji4] <;> (first | rfl | simp)) | (simp [*]; done), by repeat (first | exact Drawn0.refl _ | apply Drawn0.step)⟩
     ·rw [if_neg c5] at H
      have c5b0 : ((Go.bits .and .u64 (ji4) 1) == 1) = false := beq_eq_false_iff_ne.mpr c5
      have c5b1 : ((Go.bits .and .u64 (ji4) 1) != 1) = true := bne_iff_ne.mpr c5
      have H' := zK H; clear H
      go_wp2
      go_roundg k1
      case measure => have := HK1.out; omega
      case rel => exact ⟨(wrap64 (x4_1 + 1)), (by first | rfl | (simp; done) | (simp [*]; done)), H', ⟨by have := HK1.out; omega⟩, by repeat (first | exact Drawn0.refl _ | apply Drawn0.step)⟩
    ·rw [if_neg c3] at H
     exact absurd H (by simp)
   ·rw [if_neg c2] at H
    have c2b0 : decide (x4_1 < 64) = false := decide_eq_false c2; clear c2
    obtain rfl := Option.some.inj H
    go_wp2
    go_ret
    exact zW

/-! ### num_common: function 78 -/
mutual
def num_common.j0 : Nat → Int → Int → Bool → Option (Int)
 | 0, _, _, _ => none
 | k + 1, x0, x1, x11 => if x11 = true then (some (Go.bits .or .u64 x0 x1)) else ((num_twos.f k x0).bind fun t195 => ((num_twos.f k x1).bind fun t196 => ((num_twos.f k x0).bind fun t197 => (if 0 ≤ t197 then (num_common.l0 k (shr .u64 x0 t197) x1 (mn t195 t196)) else (none)))))
def num_common.l0 : Nat → Int → Int → Int → Option (Int)
 | 0, _, _, _ => none
 | k + 1, x0, x1, x5 => if x1 = 0 then (if 0 ≤ x5 then (some (shl .u64 x0 x5)) else (none)) else ((num_twos.f k x1).bind fun t198 => (if 0 ≤ t198 then (if x0 > (shr .u64 x1 t198) then (num_common.l0 k (shr .u64 x1 t198) (IntKind.u64.wrap (x0 - (shr .u64 x1 t198))) x5) else (num_common.l0 k x0 (IntKind.u64.wrap ((shr .u64 x1 t198) - x0)) x5)) else (none)))
end
def num_common.f (k : Nat) (a0 : Int) (a1 : Int) : Option (Int) := if a0 = 0 then (num_common.j0 k a0 a1 true) else (num_common.j0 k a0 a1 (a1 == 0))
theorem num_common.mono_l : ∀ k, (∀ y0 y1 y2, LeO (num_common.j0 k y0 y1 y2) (num_common.j0 (k + 1) y0 y1 y2)) ∧ (∀ y0 y1 y2, LeO (num_common.l0 k y0 y1 y2) (num_common.l0 (k + 1) y0 y1 y2))
 | 0 => ⟨fun _ _ _ r h => by simp [num_common.j0] at h, fun _ _ _ r h => by simp [num_common.l0] at h⟩
 | k + 1 => by
  obtain ⟨ih0, ih1⟩ := num_common.mono_l k
  refine ⟨?_, ?_⟩ <;> intros <;> first | unfold num_common.j0 | unfold num_common.l0
  all_goals repeat' first | (with_reducible first | exact ih0 .. | exact ih1 .. | exact num_twos.mono .. | exact LeO.refl _ | exact LeO.none _ | refine LeO.ite ?_ ?_ | refine LeO.bind ?_ (fun _ => ?_)) | exact ih0 .. | exact ih1 .. | exact num_twos.mono .. | exact LeO.none _ | refine LeO.ite ?_ ?_ | refine LeO.bind ?_ (fun _ => ?_)
theorem num_common.mono : ∀ a0 a1 k, LeO (num_common.f k a0 a1) (num_common.f (k + 1) a0 a1) := by
 intro a0 a1 k
 obtain ⟨ih0, ih1⟩ := num_common.mono_l k
 unfold num_common.f
 repeat' first | (with_reducible first | exact ih0 .. | exact ih1 .. | exact num_twos.mono .. | exact LeO.refl _ | exact LeO.none _ | refine LeO.ite ?_ ?_ | refine LeO.bind ?_ (fun _ => ?_)) | exact ih0 .. | exact ih1 .. | exact num_twos.mono .. | exact LeO.none _ | refine LeO.ite ?_ ?_ | refine LeO.bind ?_ (fun _ => ?_)
theorem num_common.calls (k : Nat) (a0 : Int) (a1 : Int) (r : Int) (w : World) (h : num_common.f k a0 a1 = some r) :
  Calls Try.prog 78 #[.int .u64 a0, .int .u64 a1] w fun e w' => e = .returned (.int .u64 r) ∧ Below w.heap.size w w' := by
 have HB := zK (Below.refl w.heap.size w)
 have H : (if a0 = 0 then (num_common.j0 k a0 a1 true) else (num_common.j0 k a0 a1 (a1 == 0))) = some r := h
 clear h
 have HC3 := zK H; clear H
 go_enter Try.func78, Try.ntmps78
 go_upto_region 1 with (fail)
 go_cut [11] (fun v11 wc => ∃ (kq : Nat) (x11_2 : Bool), v11 = .bool x11_2 ∧ Aside0 (num_common.j0 kq a0 a1 x11_2 = some r) ∧ Aside0 (kq ≤ k) ∧ Aside0 (Below w.heap.size w wc))
 case first =>
  have H := HC3.out; clear HC3
  by_cases c4 : a0 = 0
  ·rw [if_pos c4] at H
   have c4b0 : (a0 == 0) = true := beq_iff_eq.mpr c4
   have c4b1 : (a0 != 0) = false := bne_eq_false_iff_eq.mpr c4; clear c4
   (first | rw [c4b0] | (simp only [i64_w, i32_w]; rw [c4b0]) | skip)
   have H' := zK H; clear H
   go_wp2
   go_meet
   case rel => exact ⟨_, (true), (by first | rfl | (simp; done) | (simp [*]; done)), H', ⟨by first | omega | exact Nat.le_refl _⟩, ⟨zo HB⟩⟩
  ·rw [if_neg c4] at H
   have c4b0 : (a0 == 0) = false := beq_eq_false_iff_ne.mpr c4
   have c4b1 : (a0 != 0) = true := bne_iff_ne.mpr c4
   (first | rw [c4b0] | (simp only [i64_w, i32_w]; rw [c4b0]) | skip)
   have H' := zK H; clear H
   go_wp2
   go_meet
   case rel => exact ⟨_, ((a1 == 0)), (by first | rfl | (simp; done) | (simp [*]; done)), H', ⟨by first | omega | exact Nat.le_refl _⟩, ⟨zo HB⟩⟩
 case rest =>
  clear HC3; try clear p2; try clear c4; try clear c4b0; try clear c4b1
  obtain ⟨kq, x11_2, rfl, HA, HJ2, HB⟩ := hcut
  cases kq with
  | zero => exact absurd HA.out (by simp [num_common.j0])
  | succ kj2 =>
   have H := HA.out; clear HA
   simp only [num_common.j0] at H
   by_cases c5 : x11_2 = true
   ·subst c5
    have H1 : (some (Go.bits .or .u64 a0 a1)) = some r := by rw [if_pos rfl] at H; exact H
    clear H; have H := H1; clear H1
    obtain rfl := Option.some.inj H
    go_wp2
    go_ret
    exact zR (h := zo HB)
   ·replace c5 := Bool.eq_false_iff.mpr c5
    subst c5
    have H1 : ((num_twos.f kj2 a0).bind fun t195 => ((num_twos.f kj2 a1).bind fun t196 => ((num_twos.f kj2 a0).bind fun t197 => (if 0 ≤ t197 then (num_common.l0 kj2 (shr .u64 a0 t197) a1 (mn t195 t196)) else (none))))) = some r := by rw [if_neg (show ¬ (false = true) by decide)] at H; exact H
    clear H; have H := H1
    clear H1; replace H := zob H
    obtain ⟨t195, A60, H⟩ := H
    replace H : ((num_twos.f kj2 a1).bind fun t196 => ((num_twos.f kj2 a0).bind fun t197 => (if 0 ≤ t197 then (num_common.l0 kj2 (shr .u64 a0 t197) a1 (mn t195 t196)) else (none)))) = some r := H
    have A6 := zK A60; clear A60; replace H := zob H
    obtain ⟨t196, A70, H⟩ := H
    replace H : ((num_twos.f kj2 a0).bind fun t197 => (if 0 ≤ t197 then (num_common.l0 kj2 (shr .u64 a0 t197) a1 (mn t195 t196)) else (none))) = some r := H
    have A7 := zK A70; clear A70
    obtain ⟨ji8, hji8⟩ : ∃ j_ : Int, (mn t195 t196) = j_ := ⟨_, rfl⟩
    replace H : ((num_twos.f kj2 a0).bind fun t197 => (if 0 ≤ t197 then (num_common.l0 kj2 (shr .u64 a0 t197) a1 ji8) else (none))) = some r := by first | (rw [hji8] at H; exact H) | (simp only [hji8] at H ⊢; exact H)
    (try rw [hji8] at A6)
    (try rw [hji8] at A7)
    have hji8_ : (if t196 < t195 then t196 else t195) = ji8 := hji8; replace H := zob H
    obtain ⟨t197, A90, H⟩ := H
    replace H : (if 0 ≤ t197 then (num_common.l0 kj2 (shr .u64 a0 t197) a1 ji8) else (none)) = some r := H
    have A9 := zK A90; clear A90
    by_cases c10 : 0 ≤ t197
    ·rw [if_pos c10] at H
     have c10b0 := eq_true c10
     have c10b1 : decide (0 ≤ t197) = true := decide_eq_true c10; clear c10
     obtain ⟨ji11, hji11⟩ : ∃ j_ : Int, (shr .u64 a0 t197) = j_ := ⟨_, rfl⟩
     replace H : (num_common.l0 kj2 ji11 a1 ji8) = some r := by first | (rw [hji11] at H; exact H) | (simp only [hji11] at H ⊢; exact H)
     (try rw [hji11] at A6)
     (try rw [hji11] at A7)
     (try rw [hji11] at A9)
     have hji11_ : (a0 / 2 ^ min t197.toNat 64) = ji11 := hji11
     have hji11z : t197 ≤ 64 → (a0 / 2 ^ t197.toNat) = ji11 := shr_small hji11
     have H' := zK H; clear H
     go_wp2_with (first | ((with_reducible refine zC (f := 79) rfl ?_); refine zGo (some 16) Try.func79 #[.int .u64 a0] ?_; (with_reducible refine (num_twos.calls kj2 a0 t195 _ A6.out).mono ?_); rintro e w' ⟨rfl, ⟨nd, rfl⟩⟩; refine ⟨_, rfl, ?_⟩) | ((with_reducible refine zC (f := 79) rfl ?_); refine zGo (some 18) Try.func79 #[.int .u64 a1] ?_; (with_reducible refine (num_twos.calls kj2 a1 t196 _ A7.out).mono ?_); rintro e w' ⟨rfl, ⟨nd, rfl⟩⟩; refine ⟨_, rfl, ?_⟩) | ((with_reducible refine zC (f := 79) rfl ?_); refine zGo (some 22) Try.func79 #[.int .u64 a0] ?_; (with_reducible refine (num_twos.calls kj2 a0 t197 _ A9.out).mono ?_); rintro e w' ⟨rfl, ⟨nd, rfl⟩⟩; refine ⟨_, rfl, ?_⟩))
     go_loopg [0, 1] kj2 (fun kq v0 v1 w' => ∃ (x0_2 : Int) (x1_2 : Int), v0 = .int .u64 x0_2 ∧ v1 = .int .u64 x1_2 ∧ Aside0 (num_common.l0 kq x0_2 x1_2 ji8 = some r) ∧ Aside0 (kq ≤ kj2) ∧ Aside0 (Below w.heap.size w w'))
     case atStart => exact ⟨(ji11), (a1), (by first | rfl | (simp; done) | (simp only [← hji11] <;> (first | rfl | simp)) | (simp [*]; done)), (by first | rfl | (simp; done) | (simp [*]; done)), H', ⟨Nat.le_refl _⟩, ⟨zo HB⟩⟩
     case round =>
      clear H'; try clear c1; try clear p2; try clear c4
      try clear c4b0; try clear c4b1; try clear c5; try clear c7
      try clear c10; try clear c10b0; try clear c10b1; try clear p2
      obtain ⟨x0_2, x1_2, rfl, rfl, HA, HK2, HB⟩ := hrel
      cases gk with
      | zero => exact absurd HA.out (by simp [num_common.l0])
      | succ k2 =>
       have H := HA.out; clear HA
       simp only [num_common.l0] at H
       by_cases c12 : x1_2 = 0
       ·rw [if_pos c12] at H
        have c12b0 : (x1_2 == 0) = true := beq_iff_eq.mpr c12
        have c12b1 : (x1_2 != 0) = false := bne_eq_false_iff_eq.mpr c12; clear c12
        by_cases c13 : 0 ≤ ji8
        ·rw [if_pos c13] at H
         have c13b0 := eq_true c13
         have c13b1 : decide (0 ≤ ji8) = true := decide_eq_true c13; clear c13
         obtain ⟨ji14, hji14⟩ : ∃ j_ : Int, (shl .u64 x0_2 ji8) = j_ := ⟨_, rfl⟩
         replace H : (some ji14) = some r := by first | (rw [hji14] at H; exact H) | (simp only [hji14] at H ⊢; exact H)
         have hji14_ : (IntKind.u64.wrap (x0_2 * 2 ^ min ji8.toNat 64)) = ji14 := hji14
         have hji14z : ji8 ≤ 64 → (IntKind.u64.wrap (x0_2 * 2 ^ ji8.toNat)) = ji14 := shl_small hji14
         obtain rfl := Option.some.inj H
         go_wp2
         go_ret
         exact ⟨by first | rfl | (simp [errW_none, errW_some] <;> rfl) | (simp only [← hji8, ← hji11, ← hji14]; first | rfl | (simp [errW_none, errW_some] <;> rfl)) | (simp [*, errW_none, errW_some] <;> rfl), zo HB⟩
        ·rw [if_neg c13] at H
         exact absurd H (by simp)
       ·rw [if_neg c12] at H
        have c12b0 : (x1_2 == 0) = false := beq_eq_false_iff_ne.mpr c12
        have c12b1 : (x1_2 != 0) = true := bne_iff_ne.mpr c12; replace H := zob H
        obtain ⟨t198, A150, H⟩ := H
        replace H : (if 0 ≤ t198 then (if x0_2 > (shr .u64 x1_2 t198) then (num_common.l0 k2 (shr .u64 x1_2 t198) (IntKind.u64.wrap (x0_2 - (shr .u64 x1_2 t198))) ji8) else (num_common.l0 k2 x0_2 (IntKind.u64.wrap ((shr .u64 x1_2 t198) - x0_2)) ji8)) else (none)) = some r := H
        have A15 := zK A150; clear A150
        by_cases c16 : 0 ≤ t198
        ·rw [if_pos c16] at H
         have c16b0 := eq_true c16
         have c16b1 : decide (0 ≤ t198) = true := decide_eq_true c16; clear c16
         obtain ⟨ji17, hji17⟩ : ∃ j_ : Int, (shr .u64 x1_2 t198) = j_ := ⟨_, rfl⟩
         replace H : (if x0_2 > (ji17) then (num_common.l0 k2 ji17 (IntKind.u64.wrap (x0_2 - (ji17))) ji8) else (num_common.l0 k2 x0_2 (IntKind.u64.wrap ((ji17) - x0_2)) ji8)) = some r := by first | (rw [hji17] at H; exact H) | (simp only [hji17] at H ⊢; exact H)
         (try rw [hji17] at A15)
         have hji17_ : (x1_2 / 2 ^ min t198.toNat 64) = ji17 := hji17
         have hji17z : t198 ≤ 64 → (x1_2 / 2 ^ t198.toNat) = ji17 := shr_small hji17
         by_cases c18 : x0_2 > (ji17)
         ·rw [if_pos c18] at H
          have c18b0 : decide ((ji17) < x0_2) = true := decide_eq_true c18; clear c18
          have H' := zK H; clear H
          go_wp2_with (first | ((with_reducible refine zC (f := 79) rfl ?_); refine zGo (some 28) Try.func79 #[.int .u64 x1_2] ?_; (with_reducible refine (num_twos.calls k2 x1_2 t198 _ A15.out).mono ?_); rintro e w' ⟨rfl, ⟨nd, rfl⟩⟩; refine ⟨_, rfl, ?_⟩))
          go_roundg k2
          case measure => have := HJ2.out; have := HK2.out; omega
          case rel => exact ⟨(ji17), (IntKind.u64.wrap (x0_2 - (ji17))), (by first | rfl | (simp; done) | (simp only [← hji17] <;> (first | rfl | simp)) | (simp [*]; done)), (by first | rfl | (simp; done) | (simp only [← hji17] <;> (first | rfl | simp)) | (simp [*]; done)), H', ⟨by have := HJ2.out; have := HK2.out; omega⟩, ⟨zo HB⟩⟩
         ·rw [if_neg c18] at H
          have c18b0 : decide ((ji17) < x0_2) = false := decide_eq_false c18
          clear c18
          have H' := zK H; clear H
          go_wp2_with (first | ((with_reducible refine zC (f := 79) rfl ?_); refine zGo (some 28) Try.func79 #[.int .u64 x1_2] ?_; (with_reducible refine (num_twos.calls k2 x1_2 t198 _ A15.out).mono ?_); rintro e w' ⟨rfl, ⟨nd, rfl⟩⟩; refine ⟨_, rfl, ?_⟩))
          go_roundg k2
          case measure => have := HJ2.out; have := HK2.out; omega
          case rel => exact ⟨(x0_2), (IntKind.u64.wrap ((ji17) - x0_2)), (by first | rfl | (simp; done) | (simp [*]; done)), (by first | rfl | (simp; done) | (simp only [← hji17] <;> (first | rfl | simp)) | (simp [*]; done)), H', ⟨by have := HJ2.out; have := HK2.out; omega⟩, ⟨zo HB⟩⟩
        ·rw [if_neg c16] at H
         exact absurd H (by simp)
    ·rw [if_neg c10] at H
     exact absurd H (by simp)

end Go.Proofs.Ytjinmlpekecmbaa.PEuclidNone
