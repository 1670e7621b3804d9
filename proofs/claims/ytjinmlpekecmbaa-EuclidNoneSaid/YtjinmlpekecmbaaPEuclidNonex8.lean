/- What the call of each function that the law reaches comes to, and the law out of its plain form; no condition but what stands in each theorem. -/
import Derived.Test.YtjinmlpekecmbaaPEuclidNonex0
import Derived.Test.YtjinmlpekecmbaaPEuclidNonex4
import Derived.Test.YtjinmlpekecmbaaPEuclidNonex7
namespace Go.Proofs.Ytjinmlpekecmbaa.PEuclidNone
open Go.RowKit Go.Proofs.YtjinmlpekecmbaaW.PrintWords Go.Proofs.YtjinmlpekecmbaaW.PrintLast Go.Proofs.YtjinmlpekecmbaaW.PrintMore
open Go.Proofs.YtjinmlpekecmbaaW.PrintWords renaming blk_drewN → zN, blk_drew → zD, blk_alloc → zA, below_alloc → yA, pw_below_drewN → yN, below_drew1 → yD, below_set → yS
open Go.Proofs.YtjinmlpekecmbaaW.PrintWords.Kd renaming C_alloc → cA, C_drewN → cN, C_drew → cD
open Go.Proofs.YtjinmlpekecmbaaW.PrintWords.Aside0 renaming mk → zK
attribute [local go_sem] max2_int min2_int max_two min_two max_three min_three max_four min_four
set_option linter.unusedVariables false
set_option maxHeartbeats 8000000
set_option maxRecDepth 100000
set_option linter.unusedSimpArgs false

/-! ### euclid_row_less: function 61 -/
mutual
def euclid_row_less.j0 : Nat → Int → Int → Bool → List Int → Int → Bool → List Int → Int → Bool → Option (List Int × Int × Bool)
 | 0, _, _, _, _, _, _, _, _, _ => none
 | k + 1, x2, x3, x35, x214000, x214001, x214002, x215000, x215001, x215002 => if x35 = true then (some (([] : List Int), 0, false)) else (if x3 < 0 then ((num_Neg.f x3).bind fun bt216 => ((num_Neg.f x2).bind fun bt218 => (if bt216.2 = true then (if bt218.2 = true then (euclid_row_less.j1 k bt218.1 bt216.1 x214000 x214001 x214002 x215000 x215001 x215002) else (some (([] : List Int), 0, false))) else (some (([] : List Int), 0, false))))) else (euclid_row_less.j1 k x2 x3 x214000 x214001 x214002 x215000 x215001 x215002))
def euclid_row_less.j1 : Nat → Int → Int → List Int → Int → Bool → List Int → Int → Bool → Option (List Int × Int × Bool)
 | 0, _, _, _, _, _, _, _, _ => none
 | k + 1, x2, x3, x214000, x214001, x214002, x215000, x215001, x215002 => (num_Mul.f x3 x215001).bind fun bt220 => (if bt220.2 = true then ((num_Lcm.f k x214001 bt220.1).bind fun bt222 => (if bt222.2 = true then (if x214001 = 0 then (none) else (if bt220.1 = 0 then (none) else ((num_Mul.f x2 (wrap64 (Int.tdiv bt222.1 bt220.1))).bind fun bt224 => (if bt224.2 = true then (euclid_row_less.l0 k (wrap64 (Int.tdiv bt222.1 x214001)) bt224.1 (([bt222.1] : List Int)) (x214000.length : Int) 0 x214000 x214001 x214002 x215000 x215001 x215002 ([] : List Int) bt222.1 true) else (some (([] : List Int), 0, false)))))) else (some (([] : List Int), 0, false)))) else (some (([] : List Int), 0, false)))
def euclid_row_less.l0 : Nat → Int → Int → List Int → Int → Int → List Int → Int → Bool → List Int → Int → Bool → List Int → Int → Bool → Option (List Int × Int × Bool)
 | 0, _, _, _, _, _, _, _, _, _, _, _, _, _, _ => none
 | k + 1, x14, x16, x18, x98, x99, x214000, x214001, x214002, x215000, x215001, x215002, x227000, x227001, x227002 => if x99 < x98 then (if 0 ≤ x99 then (if x99 < (x214000.length : Int) then ((num_Mul.f (rd x214000 x99) x14).bind fun bt231 => (if x99 < (x215000.length : Int) then ((num_Mul.f (rd x215000 x99) x16).bind fun bt234 => ((num_Sub.f bt231.1 bt234.1).bind fun bt236 => (if bt231.2 = true then (if bt234.2 = true then (if bt236.2 = true then (if x227000.length < 17592186044416 then (if x18.length < 17592186044416 then (euclid_row_less.l0 k x14 x16 (x18 ++ [bt236.1]) x98 (wrap64 (x99 + 1)) x214000 x214001 x214002 x215000 x215001 x215002 (x227000 ++ [bt236.1]) x227001 x227002) else (none)) else (none)) else (some (([] : List Int), 0, false))) else (some (([] : List Int), 0, false))) else (some (([] : List Int), 0, false))))) else (none))) else (none)) else (none)) else ((num_Gcd.f k x18).bind fun bt244 => (if bt244.2 = true then (euclid_row_less.j3 k bt244.1 (bt244.1 == 0) x227000 x227001 x227002) else (euclid_row_less.j3 k bt244.1 true x227000 x227001 x227002)))
def euclid_row_less.j3 : Nat → Int → Bool → List Int → Int → Bool → Option (List Int × Int × Bool)
 | 0, _, _, _, _, _ => none
 | k + 1, x26, x160, x227000, x227001, x227002 => if x160 = true then (some (([] : List Int), 0, false)) else (if x26 = 0 then (none) else (euclid_row_less.l1 k x26 (x227000.length : Int) 0 x227000 (wrap64 (Int.tdiv x227001 x26)) x227002))
def euclid_row_less.l1 : Nat → Int → Int → Int → List Int → Int → Bool → Option (List Int × Int × Bool)
 | 0, _, _, _, _, _, _ => none
 | k + 1, x26, x169, x170, x227000, x227001, x227002 => if x170 < x169 then (if 0 ≤ x170 then (if x170 < (x227000.length : Int) then (if x26 = 0 then (none) else (euclid_row_less.l1 k x26 x169 (wrap64 (x170 + 1)) (x227000.set (x170 : Int).toNat (wrap64 (Int.tdiv (rd x227000 x170) x26))) x227001 x227002)) else (none)) else (none)) else (some (x227000, x227001, x227002))
end
def euclid_row_less.f (k : Nat) (l0_0 : List Int) (a0_1 : Int) (a0_2 : Bool) (l1_0 : List Int) (a1_1 : Int) (a1_2 : Bool) (a2 : Int) (a3 : Int) : Option (List Int × Int × Bool) := if a0_2 = true then (euclid_row_less.j0 k a2 a3 (!a1_2) l0_0 a0_1 a0_2 l1_0 a1_1 a1_2) else (euclid_row_less.j0 k a2 a3 true l0_0 a0_1 a0_2 l1_0 a1_1 a1_2)
theorem euclid_row_less.mono_l : ∀ k, (∀ y0 y1 y2 y3 y4 y5 y6 y7 y8, LeO (euclid_row_less.j0 k y0 y1 y2 y3 y4 y5 y6 y7 y8) (euclid_row_less.j0 (k + 1) y0 y1 y2 y3 y4 y5 y6 y7 y8)) ∧ (∀ y0 y1 y2 y3 y4 y5 y6 y7, LeO (euclid_row_less.j1 k y0 y1 y2 y3 y4 y5 y6 y7) (euclid_row_less.j1 (k + 1) y0 y1 y2 y3 y4 y5 y6 y7)) ∧ (∀ y0 y1 y2 y3 y4 y5 y6 y7 y8 y9 y10 y11 y12 y13, LeO (euclid_row_less.l0 k y0 y1 y2 y3 y4 y5 y6 y7 y8 y9 y10 y11 y12 y13) (euclid_row_less.l0 (k + 1) y0 y1 y2 y3 y4 y5 y6 y7 y8 y9 y10 y11 y12 y13)) ∧ (∀ y0 y1 y2 y3 y4, LeO (euclid_row_less.j3 k y0 y1 y2 y3 y4) (euclid_row_less.j3 (k + 1) y0 y1 y2 y3 y4)) ∧ (∀ y0 y1 y2 y3 y4 y5, LeO (euclid_row_less.l1 k y0 y1 y2 y3 y4 y5) (euclid_row_less.l1 (k + 1) y0 y1 y2 y3 y4 y5))
 | 0 => ⟨fun _ _ _ _ _ _ _ _ _ r h => by simp [euclid_row_less.j0] at h, fun _ _ _ _ _ _ _ _ r h => by simp [euclid_row_less.j1] at h, fun _ _ _ _ _ _ _ _ _ _ _ _ _ _ r h => by simp [euclid_row_less.l0] at h, fun _ _ _ _ _ r h => by simp [euclid_row_less.j3] at h, fun _ _ _ _ _ _ r h => by simp [euclid_row_less.l1] at h⟩
 | k + 1 => by
  obtain ⟨ih0, ih1, ih2, ih3, ih4⟩ := euclid_row_less.mono_l k
  refine ⟨?_, ?_, ?_, ?_, ?_⟩ <;> intros <;> first | unfold euclid_row_less.j0 | unfold euclid_row_less.j1 | unfold euclid_row_less.l0 | unfold euclid_row_less.j3 | unfold euclid_row_less.l1
  all_goals repeat' first | (with_reducible first | exact ih0 .. | exact ih1 .. | exact ih2 .. | exact ih3 .. | exact ih4 .. | exact num_Gcd.mono .. | exact num_Lcm.mono .. | exact LeO.refl _ | exact LeO.none _ | refine LeO.ite ?_ ?_ | refine LeO.bind ?_ (fun _ => ?_)) | exact ih0 .. | exact ih1 .. | exact ih2 .. | exact ih3 .. | exact ih4 .. | exact num_Gcd.mono .. | exact num_Lcm.mono .. | exact LeO.none _ | refine LeO.ite ?_ ?_ | refine LeO.bind ?_ (fun _ => ?_)
theorem euclid_row_less.mono : ∀ a0 a1 a2 a3 a4 a5 a6 a7 k, LeO (euclid_row_less.f k a0 a1 a2 a3 a4 a5 a6 a7) (euclid_row_less.f (k + 1) a0 a1 a2 a3 a4 a5 a6 a7) := by
 intro a0 a1 a2 a3 a4 a5 a6 a7 k
 obtain ⟨ih0, ih1, ih2, ih3, ih4⟩ := euclid_row_less.mono_l k
 unfold euclid_row_less.f
 repeat' first | (with_reducible first | exact ih0 .. | exact ih1 .. | exact ih2 .. | exact ih3 .. | exact ih4 .. | exact num_Gcd.mono .. | exact num_Lcm.mono .. | exact LeO.refl _ | exact LeO.none _ | refine LeO.ite ?_ ?_ | refine LeO.bind ?_ (fun _ => ?_)) | exact ih0 .. | exact ih1 .. | exact ih2 .. | exact ih3 .. | exact ih4 .. | exact num_Gcd.mono .. | exact num_Lcm.mono .. | exact LeO.none _ | refine LeO.ite ?_ ?_ | refine LeO.bind ?_ (fun _ => ?_)
theorem euclid_row_less.calls (k : Nat) (A0_0 : Option Addr) (c0_0 : Nat) (l0_0 : List Int) (a0_1 : Int) (a0_2 : Bool) (A1_0 : Option Addr) (c1_0 : Nat) (l1_0 : List Int) (a1_1 : Int) (a1_2 : Bool) (a2 : Int) (a3 : Int) (r1 : List Int) (r2 : Int) (r3 : Bool) (w : World) (hr0_0 : Kd.C (Kd.int .i64) w A0_0 l0_0.length l0_0) (hc0_0 : l0_0.length ≤ c0_0) (hr1_0 : Kd.C (Kd.int .i64) w A1_0 l1_0.length l1_0) (hc1_0 : l1_0.length ≤ c1_0) (h : euclid_row_less.f k l0_0 a0_1 a0_2 l1_0 a1_1 a1_2 a2 a3 = some (r1, r2, r3)) :
  Calls Try.prog 61 #[.agg #[.slice A0_0 l0_0.length c0_0, .int .i64 a0_1, .bool a0_2], .agg #[.slice A1_0 l1_0.length c1_0, .int .i64 a1_1, .bool a1_2], .int .i64 a2, .int .i64 a3] w fun e w' => ∃ v0_ : Value, e = .returned (.agg #[v0_, .int .i64 r2, .bool r3]) ∧ Kd.R (Kd.int .i64) 2 w' w.heap.size (fun _ => True) v0_ r1 ∧ Below w.heap.size w w' := by
 have hu88 := Try.underlying88
 have HR0_0 := zK hr0_0
 have HC0_0 := zK hc0_0; clear hr0_0 hc0_0
 have HR1_0 := zK hr1_0
 have HC1_0 := zK hc1_0; clear hr1_0 hc1_0
 have HB := zK (Below.refl w.heap.size w)
 have H : (if a0_2 = true then (euclid_row_less.j0 k a2 a3 (!a1_2) l0_0 a0_1 a0_2 l1_0 a1_1 a1_2) else (euclid_row_less.j0 k a2 a3 true l0_0 a0_1 a0_2 l1_0 a1_1 a1_2)) = some (r1, r2, r3) := h
 clear h
 have HC5 := zK H; clear H
 go_enter Try.func61, Try.ntmps61
 go_upto_region 1 with (first | ((with_reducible refine gate_dst (N := 4) rfl ?_); refine zBx HB (cs := #[.slice A0_0 l0_0.length c0_0, .int .i64 a0_1, .bool a0_2]) (t := 88) ?_; clear HB; intro gb213 hg w6 BK213 GW213 hb HB; clear hb hg) | ((with_reducible refine gate_dst (N := 5) rfl ?_); refine zBx HB (cs := #[.slice A1_0 l1_0.length c1_0, .int .i64 a1_1, .bool a1_2]) (t := 88) ?_; clear HB; intro gb214 hg w7 BK214 GW214 hb HB; have NB213_214 := zn1 BK213 hg; have NB214_213 := zn2 BK213 hg; replace BK213 := zbb BK213 hb; clear hb hg) | ((with_reducible refine gate_dst (N := 8) rfl ?_); refine zBx HB (cs := #[.slice none 0 0, .int .i64 0, .bool false]) (t := 88) ?_; clear HB; intro gb215 hg w8 BK215 GW215 hb HB; have NB213_215 := zn1 BK213 hg; have NB215_213 := zn2 BK213 hg; replace BK213 := zbb BK213 hb; have NB214_215 := zn1 BK214 hg; have NB215_214 := zn2 BK214 hg; replace BK214 := zbb BK214 hb; clear hb hg))
 repeat (go_quiet (first | ((with_reducible refine gate_dst (N := 4) rfl ?_); refine zBx HB (cs := #[.slice A0_0 l0_0.length c0_0, .int .i64 a0_1, .bool a0_2]) (t := 88) ?_; clear HB; intro gb213 hg w6 BK213 GW213 hb HB; clear hb hg) | ((with_reducible refine gate_dst (N := 5) rfl ?_); refine zBx HB (cs := #[.slice A1_0 l1_0.length c1_0, .int .i64 a1_1, .bool a1_2]) (t := 88) ?_; clear HB; intro gb214 hg w7 BK214 GW214 hb HB; have NB213_214 := zn1 BK213 hg; have NB214_213 := zn2 BK213 hg; replace BK213 := zbb BK213 hb; clear hb hg) | ((with_reducible refine gate_dst (N := 8) rfl ?_); refine zBx HB (cs := #[.slice none 0 0, .int .i64 0, .bool false]) (t := 88) ?_; clear HB; intro gb215 hg w8 BK215 GW215 hb HB; have NB213_215 := zn1 BK213 hg; have NB215_213 := zn2 BK213 hg; replace BK213 := zbb BK213 hb; have NB214_215 := zn1 BK214 hg; have NB215_214 := zn2 BK214 hg; replace BK214 := zbb BK214 hb; clear hb hg)); go_upto_region 1 with (first | ((with_reducible refine gate_dst (N := 4) rfl ?_); refine zBx HB (cs := #[.slice A0_0 l0_0.length c0_0, .int .i64 a0_1, .bool a0_2]) (t := 88) ?_; clear HB; intro gb213 hg w6 BK213 GW213 hb HB; clear hb hg) | ((with_reducible refine gate_dst (N := 5) rfl ?_); refine zBx HB (cs := #[.slice A1_0 l1_0.length c1_0, .int .i64 a1_1, .bool a1_2]) (t := 88) ?_; clear HB; intro gb214 hg w7 BK214 GW214 hb HB; have NB213_214 := zn1 BK213 hg; have NB214_213 := zn2 BK213 hg; replace BK213 := zbb BK213 hb; clear hb hg) | ((with_reducible refine gate_dst (N := 8) rfl ?_); refine zBx HB (cs := #[.slice none 0 0, .int .i64 0, .bool false]) (t := 88) ?_; clear HB; intro gb215 hg w8 BK215 GW215 hb HB; have NB213_215 := zn1 BK213 hg; have NB215_213 := zn2 BK213 hg; replace BK213 := zbb BK213 hb; have NB214_215 := zn1 BK214 hg; have NB215_214 := zn2 BK214 hg; replace BK214 := zbb BK214 hb; clear hb hg)))
 (try simp only [Act.put, List.setIfInBounds_toArray, List.set_cons_zero, List.set_cons_succ])
 go_cut [35] (fun v35 wc => ∃ (kq : Nat) (x35_4 : Bool), v35 = .bool x35_4 ∧ Aside0 (euclid_row_less.j0 kq a2 a3 x35_4 l0_0 a0_1 a0_2 l1_0 a1_1 a1_2 = some (r1, r2, r3)) ∧ Aside0 (kq ≤ k) ∧ Aside0 (wc.heap[gb213]? = some (.cells #[(.slice A0_0 l0_0.length c0_0), .int .i64 a0_1, .bool a0_2] 88 (0, 0))) ∧ Aside0 (wc.heap[gb214]? = some (.cells #[(.slice A1_0 l1_0.length c1_0), .int .i64 a1_1, .bool a1_2] 88 (0, 0))) ∧ Aside0 (wc.heap[gb215]? = some (.cells #[(.slice none 0 0), .int .i64 0, .bool false] 88 (0, 0))) ∧ Aside0 (Below w.heap.size w wc))
 case first =>
  have H := HC5.out; clear HC5
  by_cases c9 : a0_2 = true
  ·subst c9
   have H1 : (euclid_row_less.j0 k a2 a3 (!a1_2) l0_0 a0_1 true l1_0 a1_1 a1_2) = some (r1, r2, r3) := by rw [if_pos rfl] at H; exact H
   clear H; have H := H1; clear H1
   have H' := zK H; clear H
   have hnb10 := NB213_214.out
   have hnc10 := NB214_213.out
   have hnb11 := NB213_215.out
   have hnc11 := NB215_213.out
   have hcz12_0 := zc0 BK213
   have hcz12_1 := zc1 BK213
   have hcz12_2 := zc2 BK213
   have hfz12_0 := zfz BK213 0
   have hfz12_1 := zfz BK213 1
   have hfz12_2 := zfz BK213 2
   have hnb13 := NB214_215.out
   have hnc13 := NB215_214.out
   have hcz14_0 := zc0 BK214
   have hcz14_1 := zc1 BK214
   have hcz14_2 := zc2 BK214
   have hfz14_0 := zfz BK214 0
   have hfz14_1 := zfz BK214 1
   have hfz14_2 := zfz BK214 2
   go_wp2
   repeat (go_quiet (fail); try go_wp2)
   go_meet
   case rel => exact ⟨_, (!a1_2), (by first | rfl | (simp; done) | (simp [*]; done)), H', ⟨by first | omega | exact Nat.le_refl _⟩, ⟨zb BK213⟩, ⟨zb BK214⟩, ⟨zb BK215⟩, ⟨zo HB⟩⟩
  ·replace c9 := Bool.eq_false_iff.mpr c9
   subst c9
   have H1 : (euclid_row_less.j0 k a2 a3 true l0_0 a0_1 false l1_0 a1_1 a1_2) = some (r1, r2, r3) := by rw [if_neg (show ¬ (false = true) by decide)] at H; exact H
   clear H; have H := H1; clear H1
   have H' := zK H; clear H
   have hnb15 := NB213_214.out
   have hnc15 := NB214_213.out
   have hnb16 := NB213_215.out
   have hnc16 := NB215_213.out
   have hcz17_0 := zc0 BK213
   have hcz17_1 := zc1 BK213
   have hcz17_2 := zc2 BK213
   have hfz17_0 := zfz BK213 0
   have hfz17_1 := zfz BK213 1
   have hfz17_2 := zfz BK213 2
   go_wp2
   repeat (go_quiet (fail); try go_wp2)
   go_meet
   case rel => exact ⟨_, (true), (by first | rfl | (simp; done) | (simp [*]; done)), H', ⟨by first | omega | exact Nat.le_refl _⟩, ⟨zb BK213⟩, ⟨zb BK214⟩, ⟨zb BK215⟩, ⟨zo HB⟩⟩
 case rest =>
  clear HC5; try clear c1; try clear p2; try clear c6
  try clear c9; try clear c10; try clear c11; try clear c13
  try clear c15; try clear c16; try clear hcz12_0; try clear hcz12_1
  try clear hcz12_2; try clear hcz14_0; try clear hcz14_1; try clear hcz14_2
  try clear hcz17_0; try clear hcz17_1; try clear hcz17_2; try clear hfz12_0
  try clear hfz12_1; try clear hfz12_2; try clear hfz14_0; try clear hfz14_1
  try clear hfz14_2; try clear hfz17_0; try clear hfz17_1; try clear hfz17_2
  obtain ⟨kq, x35_4, rfl, HA, HJ4, BK213, BK214, BK215, HB⟩ := hcut
  cases kq with
  | zero => exact absurd HA.out (by simp [euclid_row_less.j0])
  | succ kj4 =>
   have H := HA.out; clear HA
   simp only [euclid_row_less.j0] at H
   by_cases c18 : x35_4 = true
   ·subst c18
    have H1 : (some (([] : List Int), 0, false)) = some (r1, r2, r3) := by rw [if_pos rfl] at H; exact H
    clear H; have H := H1; clear H1
    simp only [Option.some.injEq, Prod.mk.injEq] at H
    obtain ⟨rfl, rfl, rfl⟩ := H
    have hnb19 := NB215_213.out
    have hnc19 := NB213_215.out
    have hnb20 := NB215_214.out
    have hnc20 := NB214_215.out
    have hcz21_0 := zc0 BK215
    have hcz21_1 := zc1 BK215
    have hcz21_2 := zc2 BK215
    have hfz21_0 := zfz BK215 0
    have hfz21_1 := zfz BK215 1
    have hfz21_2 := zfz BK215 2
    go_wp2
    repeat (go_quiet (fail); try go_wp2)
    refine bodyPost_ret (results_cell_row rfl _ _ gb215 88 #[.slice none 0 0, .int .i64 0, .bool false] (0, 0) _ rfl (by refine zM ?_; refine blk_put (cs := #[.slice none 0 0, .int .i64 0, .bool false]) ?_ 2 _ rfl; refine zM ?_; refine blk_put (cs := #[.slice none 0 0, .int .i64 0, .bool false]) ?_ 1 _ rfl; refine zM ?_; refine blk_put (cs := #[.slice none 0 0, .int .i64 0, .bool false]) ?_ 0 _ rfl; refine zM ?_; exact BK215.out) Try.underlying88 rfl (by kernel_rfl)) rfl ?_
    exact ⟨_, zR (h := zL (h := zo HB))⟩
   ·replace c18 := Bool.eq_false_iff.mpr c18
    subst c18
    have H1 : (if a3 < 0 then ((num_Neg.f a3).bind fun bt216 => ((num_Neg.f a2).bind fun bt218 => (if bt216.2 = true then (if bt218.2 = true then (euclid_row_less.j1 kj4 bt218.1 bt216.1 l0_0 a0_1 a0_2 l1_0 a1_1 a1_2) else (some (([] : List Int), 0, false))) else (some (([] : List Int), 0, false))))) else (euclid_row_less.j1 kj4 a2 a3 l0_0 a0_1 a0_2 l1_0 a1_1 a1_2)) = some (r1, r2, r3) := by rw [if_neg (show ¬ (false = true) by decide)] at H; exact H
    clear H; have H := H1; clear H1
    have HC22 := zK H; clear H
    go_upto_if 38 with (fail)
    repeat (go_quiet (fail); go_upto_if 38 with (fail))
    go_cut [2, 3] (fun v2 v3 wc => ∃ (kq : Nat) (x2_21 : Int) (x3_21 : Int) (x216001_21 : Int) (x216002_21 : Bool), v2 = .int .i64 x2_21 ∧ v3 = .int .i64 x3_21 ∧ Aside0 (euclid_row_less.j1 kq x2_21 x3_21 l0_0 a0_1 a0_2 l1_0 a1_1 a1_2 = some (r1, r2, r3)) ∧ Aside0 (kq ≤ kj4) ∧ Aside0 (wc.heap[gb213]? = some (.cells #[(.slice A0_0 l0_0.length c0_0), .int .i64 a0_1, .bool a0_2] 88 (0, 0))) ∧ Aside0 (wc.heap[gb214]? = some (.cells #[(.slice A1_0 l1_0.length c1_0), .int .i64 a1_1, .bool a1_2] 88 (0, 0))) ∧ Aside0 (wc.heap[gb215]? = some (.cells #[(.slice none 0 0), .int .i64 x216001_21, .bool x216002_21] 88 (0, 0))) ∧ Aside0 (Below w.heap.size w wc))
    case first =>
     have H := HC22.out; clear HC22
     by_cases c23 : a3 < 0
     ·rw [if_pos c23] at H
      have c23b0 : decide (a3 < 0) = true := decide_eq_true c23; clear c23
      (first | rw [c23b0] | (simp only [i64_w, i32_w]; rw [c23b0]) | skip)
      replace H := zob H
      obtain ⟨⟨t216, t217⟩, A240, H⟩ := H
      replace H : ((num_Neg.f a2).bind fun bt218 => (if t217 = true then (if bt218.2 = true then (euclid_row_less.j1 kj4 bt218.1 t216 l0_0 a0_1 a0_2 l1_0 a1_1 a1_2) else (some (([] : List Int), 0, false))) else (some (([] : List Int), 0, false)))) = some (r1, r2, r3) := H
      have A24 := zK A240; clear A240; replace H := zob H
      obtain ⟨⟨t218, t219⟩, A250, H⟩ := H
      replace H : (if t217 = true then (if t219 = true then (euclid_row_less.j1 kj4 t218 t216 l0_0 a0_1 a0_2 l1_0 a1_1 a1_2) else (some (([] : List Int), 0, false))) else (some (([] : List Int), 0, false))) = some (r1, r2, r3) := H
      have A25 := zK A250; clear A250
      by_cases c26 : t217 = true
      ·subst c26
       have H1 : (if t219 = true then (euclid_row_less.j1 kj4 t218 t216 l0_0 a0_1 a0_2 l1_0 a1_1 a1_2) else (some (([] : List Int), 0, false))) = some (r1, r2, r3) := by rw [if_pos rfl] at H; exact H
       clear H; have H := H1; clear H1
       by_cases c27 : t219 = true
       ·subst c27
        have H1 : (euclid_row_less.j1 kj4 t218 t216 l0_0 a0_1 a0_2 l1_0 a1_1 a1_2) = some (r1, r2, r3) := by rw [if_pos rfl] at H; exact H
        clear H; have H := H1; clear H1
        have H' := zK H; clear H
        go_wp2_with (first | (go_at_call 59; (with_reducible refine (num_Neg.calls a3 t216 true _ A24.out).mono ?_); rintro e w' ⟨rfl, ⟨nd, rfl⟩⟩; (try first | exact ⟨rfl, _, World.drewN_drewN _ _ _⟩ | exact ⟨rfl, _, Eq.trans (World.drewN_drewN _ _ _) (congrArg (World.drewN _) (Nat.add_assoc _ _ _))⟩)) | (go_at_call 59; (with_reducible refine (num_Neg.calls a2 t218 true _ A25.out).mono ?_); rintro e w' ⟨rfl, ⟨nd, rfl⟩⟩; (try first | exact ⟨rfl, _, World.drewN_drewN _ _ _⟩ | exact ⟨rfl, _, Eq.trans (World.drewN_drewN _ _ _) (congrArg (World.drewN _) (Nat.add_assoc _ _ _))⟩)))
        skip
        go_meet
        case rel => exact ⟨_, (t218), (t216), (0), (false), (by first | rfl | (simp; done) | (simp [*]; done)), (by first | rfl | (simp; done) | (simp [*]; done)), H', ⟨by have := HJ4.out; first | omega | exact Nat.le_refl _⟩, ⟨zb BK213⟩, ⟨zb BK214⟩, ⟨zb BK215⟩, ⟨zo HB⟩⟩
       ·replace c27 := Bool.eq_false_iff.mpr c27
        subst c27
        have H1 : (some (([] : List Int), 0, false)) = some (r1, r2, r3) := by rw [if_neg (show ¬ (false = true) by decide)] at H; exact H
        clear H; have H := H1; clear H1
        simp only [Option.some.injEq, Prod.mk.injEq] at H
        obtain ⟨rfl, rfl, rfl⟩ := H
        go_wp2_with (first | (go_at_call 59; (with_reducible refine (num_Neg.calls a3 t216 true _ A24.out).mono ?_); rintro e w' ⟨rfl, ⟨nd, rfl⟩⟩; (try first | exact ⟨rfl, _, World.drewN_drewN _ _ _⟩ | exact ⟨rfl, _, Eq.trans (World.drewN_drewN _ _ _) (congrArg (World.drewN _) (Nat.add_assoc _ _ _))⟩)) | (go_at_call 59; (with_reducible refine (num_Neg.calls a2 t218 false _ A25.out).mono ?_); rintro e w' ⟨rfl, ⟨nd, rfl⟩⟩; (try first | exact ⟨rfl, _, World.drewN_drewN _ _ _⟩ | exact ⟨rfl, _, Eq.trans (World.drewN_drewN _ _ _) (congrArg (World.drewN _) (Nat.add_assoc _ _ _))⟩); have hnb28 := NB215_213.out; have hnc28 := NB213_215.out; have hnb29 := NB215_214.out; have hnc29 := NB214_215.out; have hcz30_0 := zc0 BK215; have hcz30_1 := zc1 BK215; have hcz30_2 := zc2 BK215; have hfz30_0 := zfz BK215 0; have hfz30_1 := zfz BK215 1; have hfz30_2 := zfz BK215 2))
        skip
        refine bodyPost_ret (results_cell_row rfl _ _ gb215 88 #[.slice none 0 0, .int .i64 0, .bool false] (0, 0) _ rfl (by refine zM ?_; refine blk_put (cs := #[.slice none 0 0, .int .i64 0, .bool false]) ?_ 2 _ rfl; refine zM ?_; refine blk_put (cs := #[.slice none 0 0, .int .i64 0, .bool false]) ?_ 1 _ rfl; refine zM ?_; refine blk_put (cs := #[.slice none 0 0, .int .i64 0, .bool false]) ?_ 0 _ rfl; refine zM ?_; exact BK215.out) Try.underlying88 rfl (by kernel_rfl)) rfl ?_
        exact ⟨_, zR (h := zL (h := zo HB))⟩
      ·replace c26 := Bool.eq_false_iff.mpr c26
       subst c26
       have H1 : (some (([] : List Int), 0, false)) = some (r1, r2, r3) := by rw [if_neg (show ¬ (false = true) by decide)] at H; exact H
       clear H; have H := H1; clear H1
       simp only [Option.some.injEq, Prod.mk.injEq] at H
       obtain ⟨rfl, rfl, rfl⟩ := H
       go_wp2_with (first | (go_at_call 59; (with_reducible refine (num_Neg.calls a3 t216 false _ A24.out).mono ?_); rintro e w' ⟨rfl, ⟨nd, rfl⟩⟩; (try first | exact ⟨rfl, _, World.drewN_drewN _ _ _⟩ | exact ⟨rfl, _, Eq.trans (World.drewN_drewN _ _ _) (congrArg (World.drewN _) (Nat.add_assoc _ _ _))⟩)) | (go_at_call 59; (with_reducible refine (num_Neg.calls a2 t218 t219 _ A25.out).mono ?_); rintro e w' ⟨rfl, ⟨nd, rfl⟩⟩; (try first | exact ⟨rfl, _, World.drewN_drewN _ _ _⟩ | exact ⟨rfl, _, Eq.trans (World.drewN_drewN _ _ _) (congrArg (World.drewN _) (Nat.add_assoc _ _ _))⟩); have hnb31 := NB215_213.out; have hnc31 := NB213_215.out; have hnb32 := NB215_214.out; have hnc32 := NB214_215.out; have hcz33_0 := zc0 BK215; have hcz33_1 := zc1 BK215; have hcz33_2 := zc2 BK215; have hfz33_0 := zfz BK215 0; have hfz33_1 := zfz BK215 1; have hfz33_2 := zfz BK215 2))
       skip
       refine bodyPost_ret (results_cell_row rfl _ _ gb215 88 #[.slice none 0 0, .int .i64 0, .bool false] (0, 0) _ rfl (by refine zM ?_; refine blk_put (cs := #[.slice none 0 0, .int .i64 0, .bool false]) ?_ 2 _ rfl; refine zM ?_; refine blk_put (cs := #[.slice none 0 0, .int .i64 0, .bool false]) ?_ 1 _ rfl; refine zM ?_; refine blk_put (cs := #[.slice none 0 0, .int .i64 0, .bool false]) ?_ 0 _ rfl; refine zM ?_; exact BK215.out) Try.underlying88 rfl (by kernel_rfl)) rfl ?_
       exact ⟨_, zR (h := zL (h := zo HB))⟩
     ·rw [if_neg c23] at H
      have c23b0 : decide (a3 < 0) = false := decide_eq_false c23; clear c23
      (first | rw [c23b0] | (simp only [i64_w, i32_w]; rw [c23b0]) | skip)
      have H' := zK H; clear H
      go_wp2
      repeat (go_quiet (fail); try go_wp2)
      go_meet
      case rel => exact ⟨_, (a2), (a3), (0), (false), (by first | rfl | (simp; done) | (simp [*]; done)), (by first | rfl | (simp; done) | (simp [*]; done)), H', ⟨by have := HJ4.out; first | omega | exact Nat.le_refl _⟩, ⟨zb BK213⟩, ⟨zb BK214⟩, ⟨zb BK215⟩, ⟨zo HB⟩⟩
    case rest =>
     clear HC22; try clear c1; try clear c2; try clear p2
     try clear c3; try clear c6; try clear c9; try clear c10
     try clear c11; try clear c13; try clear c15; try clear c16
     try clear c18; try clear c19; try clear c20; try clear c23
     try clear c23b0; try clear c26; try clear c27; try clear c28
     try clear c29; try clear c31; try clear c32; try clear hcz12_0
     try clear hcz12_1; try clear hcz12_2; try clear hcz14_0; try clear hcz14_1
     try clear hcz14_2; try clear hcz17_0; try clear hcz17_1; try clear hcz17_2
     try clear hcz21_0; try clear hcz21_1; try clear hcz21_2; try clear hcz30_0
     try clear hcz30_1; try clear hcz30_2; try clear hcz33_0; try clear hcz33_1
     try clear hcz33_2; try clear hfz12_0; try clear hfz12_1; try clear hfz12_2
     try clear hfz14_0; try clear hfz14_1; try clear hfz14_2; try clear hfz17_0
     try clear hfz17_1; try clear hfz17_2; try clear hfz21_0; try clear hfz21_1
     try clear hfz21_2; try clear hfz30_0; try clear hfz30_1; try clear hfz30_2
     try clear hfz33_0; try clear hfz33_1; try clear hfz33_2; try clear p2
     obtain ⟨kq, x2_21, x3_21, x216001_21, x216002_21, rfl, rfl, HA, HJ21, BK213, BK214, BK215, HB⟩ := hcut
     cases kq with
     | zero => exact absurd HA.out (by simp [euclid_row_less.j1])
     | succ kj21 =>
      have H := HA.out; clear HA
      simp only [euclid_row_less.j1] at H
      replace H := zob H
      obtain ⟨⟨t220, t221⟩, A340, H⟩ := H
      replace H : (if t221 = true then ((num_Lcm.f kj21 a0_1 t220).bind fun bt222 => (if bt222.2 = true then (if a0_1 = 0 then (none) else (if t220 = 0 then (none) else ((num_Mul.f x2_21 (wrap64 (Int.tdiv bt222.1 t220))).bind fun bt224 => (if bt224.2 = true then (euclid_row_less.l0 kj21 (wrap64 (Int.tdiv bt222.1 a0_1)) bt224.1 (([bt222.1] : List Int)) (l0_0.length : Int) 0 l0_0 a0_1 a0_2 l1_0 a1_1 a1_2 ([] : List Int) bt222.1 true) else (some (([] : List Int), 0, false)))))) else (some (([] : List Int), 0, false)))) else (some (([] : List Int), 0, false))) = some (r1, r2, r3) := H
      have A34 := zK A340; clear A340
      by_cases c35 : t221 = true
      ·subst c35
       have H1 : ((num_Lcm.f kj21 a0_1 t220).bind fun bt222 => (if bt222.2 = true then (if a0_1 = 0 then (none) else (if t220 = 0 then (none) else ((num_Mul.f x2_21 (wrap64 (Int.tdiv bt222.1 t220))).bind fun bt224 => (if bt224.2 = true then (euclid_row_less.l0 kj21 (wrap64 (Int.tdiv bt222.1 a0_1)) bt224.1 (([bt222.1] : List Int)) (l0_0.length : Int) 0 l0_0 a0_1 a0_2 l1_0 a1_1 a1_2 ([] : List Int) bt222.1 true) else (some (([] : List Int), 0, false)))))) else (some (([] : List Int), 0, false)))) = some (r1, r2, r3) := by rw [if_pos rfl] at H; exact H
       clear H; have H := H1
       clear H1; replace H := zob H
       obtain ⟨⟨t222, t223⟩, A360, H⟩ := H
       replace H : (if t223 = true then (if a0_1 = 0 then (none) else (if t220 = 0 then (none) else ((num_Mul.f x2_21 (wrap64 (Int.tdiv t222 t220))).bind fun bt224 => (if bt224.2 = true then (euclid_row_less.l0 kj21 (wrap64 (Int.tdiv t222 a0_1)) bt224.1 (([t222] : List Int)) (l0_0.length : Int) 0 l0_0 a0_1 a0_2 l1_0 a1_1 a1_2 ([] : List Int) t222 true) else (some (([] : List Int), 0, false)))))) else (some (([] : List Int), 0, false))) = some (r1, r2, r3) := H
       have A36 := zK A360; clear A360
       by_cases c37 : t223 = true
       ·subst c37
        have H1 : (if a0_1 = 0 then (none) else (if t220 = 0 then (none) else ((num_Mul.f x2_21 (wrap64 (Int.tdiv t222 t220))).bind fun bt224 => (if bt224.2 = true then (euclid_row_less.l0 kj21 (wrap64 (Int.tdiv t222 a0_1)) bt224.1 (([t222] : List Int)) (l0_0.length : Int) 0 l0_0 a0_1 a0_2 l1_0 a1_1 a1_2 ([] : List Int) t222 true) else (some (([] : List Int), 0, false)))))) = some (r1, r2, r3) := by rw [if_pos rfl] at H; exact H
        clear H; have H := H1; clear H1
        by_cases c38 : a0_1 = 0
        ·rw [if_pos c38] at H
         exact absurd H (by simp)
        ·rw [if_neg c38] at H
         have c38b0 : (a0_1 == 0) = false := beq_eq_false_iff_ne.mpr c38
         have c38b1 : (a0_1 != 0) = true := bne_iff_ne.mpr c38
         by_cases c39 : t220 = 0
         ·rw [if_pos c39] at H
          exact absurd H (by simp)
         ·rw [if_neg c39] at H
          have c39b0 : (t220 == 0) = false := beq_eq_false_iff_ne.mpr c39
          have c39b1 : (t220 != 0) = true := bne_iff_ne.mpr c39; replace H := zob H
          obtain ⟨⟨t224, t225⟩, A400, H⟩ := H
          replace H : (if t225 = true then (euclid_row_less.l0 kj21 (wrap64 (Int.tdiv t222 a0_1)) t224 (([t222] : List Int)) (l0_0.length : Int) 0 l0_0 a0_1 a0_2 l1_0 a1_1 a1_2 ([] : List Int) t222 true) else (some (([] : List Int), 0, false))) = some (r1, r2, r3) := H
          have A40 := zK A400; clear A400
          by_cases c41 : t225 = true
          ·subst c41
           have H1 : (euclid_row_less.l0 kj21 (wrap64 (Int.tdiv t222 a0_1)) t224 (([t222] : List Int)) (l0_0.length : Int) 0 l0_0 a0_1 a0_2 l1_0 a1_1 a1_2 ([] : List Int) t222 true) = some (r1, r2, r3) := by rw [if_pos rfl] at H; exact H
           clear H; have H := H1; clear H1
           obtain ⟨y227, hy227⟩ : ∃ y_ : List Int, y_ = (([t222] : List Int)) := ⟨_, rfl⟩
           replace H : (euclid_row_less.l0 kj21 (wrap64 (Int.tdiv t222 a0_1)) t224 y227 (l0_0.length : Int) 0 l0_0 a0_1 a0_2 l1_0 a1_1 a1_2 ([] : List Int) t222 true) = some (r1, r2, r3) := by first | (rw [hy227]; with_reducible exact H) | (have H2_ := (Option.bind_some _ _).symm.trans H; rw [hy227]; with_reducible exact H2_) | (have H2_ := (Option.bind_some _ _).symm.trans H; with_reducible exact H2_) | with_reducible exact H | (rw [hy227]; exact H) | exact H
           have Ny227 := zK hy227; clear hy227
           have H' := zK H; clear H
           have hnb42 := NB214_213.out
           have hnc42 := NB213_214.out
           have hnb43 := NB214_215.out
           have hnc43 := NB215_214.out
           have hcz44_0 := zc0 BK214
           have hcz44_1 := zc1 BK214
           have hcz44_2 := zc2 BK214
           have hfz44_0 := zfz BK214 0
           have hfz44_1 := zfz BK214 1
           have hfz44_2 := zfz BK214 2
           go_wp2_with (first | (go_at_call 64; (with_reducible refine (num_Mul.calls x3_21 a1_1 t220 true _ A34.out).mono ?_); rintro e w' ⟨rfl, ⟨nd, rfl⟩⟩; (try first | exact ⟨rfl, _, World.drewN_drewN _ _ _⟩ | exact ⟨rfl, _, Eq.trans (World.drewN_drewN _ _ _) (congrArg (World.drewN _) (Nat.add_assoc _ _ _))⟩); have hnb45 := NB213_215.out; have hnc45 := NB215_213.out; have hcz46_0 := zc0 BK213; have hcz46_1 := zc1 BK213; have hcz46_2 := zc2 BK213; have hfz46_0 := zfz BK213 0; have hfz46_1 := zfz BK213 1; have hfz46_2 := zfz BK213 2) | (go_at_call 72; (with_reducible refine (num_Lcm.calls kj21 a0_1 t220 t222 true _ A36.out).mono ?_); rintro e w47 ⟨rfl, hb⟩; replace BK213 := zbb BK213 hb; replace BK214 := zbb BK214 hb; replace BK215 := zbb BK215 hb; replace HB := zst HB hb; (try clear hb); (try clear hb2); (try clear hk); (try clear hi); have hcz48_0 := zc0 BK213; have hcz48_1 := zc1 BK213; have hcz48_2 := zc2 BK213; have hfz48_0 := zfz BK213 0; have hfz48_1 := zfz BK213 1; have hfz48_2 := zfz BK213 2) | (go_at_call 64; (with_reducible refine (num_Mul.calls x2_21 (wrap64 (Int.tdiv t222 t220)) t224 true _ A40.out).mono ?_); rintro e w' ⟨rfl, ⟨nd, rfl⟩⟩; (try first | exact ⟨rfl, _, World.drewN_drewN _ _ _⟩ | exact ⟨rfl, _, Eq.trans (World.drewN_drewN _ _ _) (congrArg (World.drewN _) (Nat.add_assoc _ _ _))⟩)) | ((with_reducible refine gate_dst (N := 17) rfl ?_); refine zBx HB (cs := #[.slice none 0 0, .int .i64 0, .bool false]) (t := 88) ?_; clear HB; intro gb226 hg w49 BK226 GW226 hb HB; have NB213_226 := zn1 BK213 hg; have NB226_213 := zn2 BK213 hg; replace BK213 := zbb BK213 hb; have NB214_226 := zn1 BK214 hg; have NB226_214 := zn2 BK214 hg; replace BK214 := zbb BK214 hb; have NB215_226 := zn1 BK215 hg; have NB226_215 := zn2 BK215 hg; replace BK215 := zbb BK215 hb; clear hb hg; have hnb50 := NB226_213.out; have hnc50 := NB213_226.out; have hnb51 := NB226_214.out; have hnc51 := NB214_226.out; have hnb52 := NB226_215.out; have hnc52 := NB215_226.out; have hcz53_0 := zc0 BK226; have hcz53_1 := zc1 BK226; have hcz53_2 := zc2 BK226; have hfz53_0 := zfz BK226 0; have hfz53_1 := zfz BK226 1; have hfz53_2 := zfz BK226 2) | ((with_reducible refine gate_dst (N := 95) rfl ?_); refine Kd.R_lit (Kd.int .i64) _ 2 ?hg (N := 95) ?hd (xs := ([t222] : List Int)) (inner := [.int .i64 t222]) (ok := fun _ => True) (okp := fun _ => True) ?hr ?hp (fun _ hk => hk) trivial (Below.refl _ _) (Nat.le_refl _) (by simp) ?_; (case hd => rfl); (case hg => rfl); (case hr => first | (go_simp; done) | (go_simp; rfl)); (case hp => exact (Reps.one (show Kd.M (Kd.int .i64) _ _ _ t222 [.int .i64 t222] from rfl) (Reps.none _ _))); intro v228 w54 ho55 hb hg_ hnew_; clear hg_ hnew_; (first | rw [← Ny227.out] at ho55 | (simp only [Int.reduceToNat] at ho55; rw [← Ny227.out] at ho55)); have HO229 := zK (Kd.R_lower ho55 (below_size (zo HB))); replace BK213 := zbb BK213 hb; replace BK214 := zbb BK214 hb; replace BK215 := zbb BK215 hb; replace BK226 := zK (blk_below (g := gb226) (o := .cells #[.slice none 0 0, .int .i64 t222, .bool true] 88 (0, 0)) (by refine zM ?_; refine blk_put (cs := #[.slice none 0 0, .int .i64 t222, .bool false]) ?_ 2 _ rfl; refine zM ?_; refine blk_put (cs := #[.slice none 0 0, .int .i64 0, .bool false]) ?_ 1 _ rfl; refine zM ?_; refine blk_put (cs := #[.slice none 0 0, .int .i64 0, .bool false]) ?_ 0 _ rfl; refine zM ?_; exact BK226.out) hb); replace HB := zst HB hb; clear hb ho55; have hcz56_0 := zc0 BK213; have hcz56_1 := zc1 BK213; have hcz56_2 := zc2 BK213; have hfz56_0 := zfz BK213 0; have hfz56_1 := zfz BK213 1; have hfz56_2 := zfz BK213 2))
           repeat (go_quiet (first | (go_at_call 64; (with_reducible refine (num_Mul.calls x3_21 a1_1 t220 true _ A34.out).mono ?_); rintro e w' ⟨rfl, ⟨nd, rfl⟩⟩; (try first | exact ⟨rfl, _, World.drewN_drewN _ _ _⟩ | exact ⟨rfl, _, Eq.trans (World.drewN_drewN _ _ _) (congrArg (World.drewN _) (Nat.add_assoc _ _ _))⟩); have hnb45 := NB213_215.out; have hnc45 := NB215_213.out; have hcz46_0 := zc0 BK213; have hcz46_1 := zc1 BK213; have hcz46_2 := zc2 BK213; have hfz46_0 := zfz BK213 0; have hfz46_1 := zfz BK213 1; have hfz46_2 := zfz BK213 2) | (go_at_call 72; (with_reducible refine (num_Lcm.calls kj21 a0_1 t220 t222 true _ A36.out).mono ?_); rintro e w47 ⟨rfl, hb⟩; replace BK213 := zbb BK213 hb; replace BK214 := zbb BK214 hb; replace BK215 := zbb BK215 hb; replace HB := zst HB hb; (try clear hb); (try clear hb2); (try clear hk); (try clear hi); have hcz48_0 := zc0 BK213; have hcz48_1 := zc1 BK213; have hcz48_2 := zc2 BK213; have hfz48_0 := zfz BK213 0; have hfz48_1 := zfz BK213 1; have hfz48_2 := zfz BK213 2) | (go_at_call 64; (with_reducible refine (num_Mul.calls x2_21 (wrap64 (Int.tdiv t222 t220)) t224 true _ A40.out).mono ?_); rintro e w' ⟨rfl, ⟨nd, rfl⟩⟩; (try first | exact ⟨rfl, _, World.drewN_drewN _ _ _⟩ | exact ⟨rfl, _, Eq.trans (World.drewN_drewN _ _ _) (congrArg (World.drewN _) (Nat.add_assoc _ _ _))⟩)) | ((with_reducible refine gate_dst (N := 17) rfl ?_); refine zBx HB (cs := #[.slice none 0 0, .int .i64 0, .bool false]) (t := 88) ?_; clear HB; intro gb226 hg w49 BK226 GW226 hb HB; have NB213_226 := zn1 BK213 hg; have NB226_213 := zn2 BK213 hg; replace BK213 := zbb BK213 hb; have NB214_226 := zn1 BK214 hg; have NB226_214 := zn2 BK214 hg; replace BK214 := zbb BK214 hb; have NB215_226 := zn1 BK215 hg; have NB226_215 := zn2 BK215 hg; replace BK215 := zbb BK215 hb; clear hb hg; have hnb50 := NB226_213.out; have hnc50 := NB213_226.out; have hnb51 := NB226_214.out; have hnc51 := NB214_226.out; have hnb52 := NB226_215.out; have hnc52 := NB215_226.out; have hcz53_0 := zc0 BK226; have hcz53_1 := zc1 BK226; have hcz53_2 := zc2 BK226; have hfz53_0 := zfz BK226 0; have hfz53_1 := zfz BK226 1; have hfz53_2 := zfz BK226 2) | ((with_reducible refine gate_dst (N := 95) rfl ?_); refine Kd.R_lit (Kd.int .i64) _ 2 ?hg (N := 95) ?hd (xs := ([t222] : List Int)) (inner := [.int .i64 t222]) (ok := fun _ => True) (okp := fun _ => True) ?hr ?hp (fun _ hk => hk) trivial (Below.refl _ _) (Nat.le_refl _) (by simp) ?_; (case hd => rfl); (case hg => rfl); (case hr => first | (go_simp; done) | (go_simp; rfl)); (case hp => exact (Reps.one (show Kd.M (Kd.int .i64) _ _ _ t222 [.int .i64 t222] from rfl) (Reps.none _ _))); intro v228 w54 ho55 hb hg_ hnew_; clear hg_ hnew_; (first | rw [← Ny227.out] at ho55 | (simp only [Int.reduceToNat] at ho55; rw [← Ny227.out] at ho55)); have HO229 := zK (Kd.R_lower ho55 (below_size (zo HB))); replace BK213 := zbb BK213 hb; replace BK214 := zbb BK214 hb; replace BK215 := zbb BK215 hb; replace BK226 := zK (blk_below (g := gb226) (o := .cells #[.slice none 0 0, .int .i64 t222, .bool true] 88 (0, 0)) (by refine zM ?_; refine blk_put (cs := #[.slice none 0 0, .int .i64 t222, .bool false]) ?_ 2 _ rfl; refine zM ?_; refine blk_put (cs := #[.slice none 0 0, .int .i64 0, .bool false]) ?_ 1 _ rfl; refine zM ?_; refine blk_put (cs := #[.slice none 0 0, .int .i64 0, .bool false]) ?_ 0 _ rfl; refine zM ?_; exact BK226.out) hb); replace HB := zst HB hb; clear hb ho55; have hcz56_0 := zc0 BK213; have hcz56_1 := zc1 BK213; have hcz56_2 := zc2 BK213; have hfz56_0 := zfz BK213 0; have hfz56_1 := zfz BK213 1; have hfz56_2 := zfz BK213 2)); try go_wp2_with (first | (go_at_call 64; (with_reducible refine (num_Mul.calls x3_21 a1_1 t220 true _ A34.out).mono ?_); rintro e w' ⟨rfl, ⟨nd, rfl⟩⟩; (try first | exact ⟨rfl, _, World.drewN_drewN _ _ _⟩ | exact ⟨rfl, _, Eq.trans (World.drewN_drewN _ _ _) (congrArg (World.drewN _) (Nat.add_assoc _ _ _))⟩); have hnb45 := NB213_215.out; have hnc45 := NB215_213.out; have hcz46_0 := zc0 BK213; have hcz46_1 := zc1 BK213; have hcz46_2 := zc2 BK213; have hfz46_0 := zfz BK213 0; have hfz46_1 := zfz BK213 1; have hfz46_2 := zfz BK213 2) | (go_at_call 72; (with_reducible refine (num_Lcm.calls kj21 a0_1 t220 t222 true _ A36.out).mono ?_); rintro e w47 ⟨rfl, hb⟩; replace BK213 := zbb BK213 hb; replace BK214 := zbb BK214 hb; replace BK215 := zbb BK215 hb; replace HB := zst HB hb; (try clear hb); (try clear hb2); (try clear hk); (try clear hi); have hcz48_0 := zc0 BK213; have hcz48_1 := zc1 BK213; have hcz48_2 := zc2 BK213; have hfz48_0 := zfz BK213 0; have hfz48_1 := zfz BK213 1; have hfz48_2 := zfz BK213 2) | (go_at_call 64; (with_reducible refine (num_Mul.calls x2_21 (wrap64 (Int.tdiv t222 t220)) t224 true _ A40.out).mono ?_); rintro e w' ⟨rfl, ⟨nd, rfl⟩⟩; (try first | exact ⟨rfl, _, World.drewN_drewN _ _ _⟩ | exact ⟨rfl, _, Eq.trans (World.drewN_drewN _ _ _) (congrArg (World.drewN _) (Nat.add_assoc _ _ _))⟩)) | ((with_reducible refine gate_dst (N := 17) rfl ?_); refine zBx HB (cs := #[.slice none 0 0, .int .i64 0, .bool false]) (t := 88) ?_; clear HB; intro gb226 hg w49 BK226 GW226 hb HB; have NB213_226 := zn1 BK213 hg; have NB226_213 := zn2 BK213 hg; replace BK213 := zbb BK213 hb; have NB214_226 := zn1 BK214 hg; have NB226_214 := zn2 BK214 hg; replace BK214 := zbb BK214 hb; have NB215_226 := zn1 BK215 hg; have NB226_215 := zn2 BK215 hg; replace BK215 := zbb BK215 hb; clear hb hg; have hnb50 := NB226_213.out; have hnc50 := NB213_226.out; have hnb51 := NB226_214.out; have hnc51 := NB214_226.out; have hnb52 := NB226_215.out; have hnc52 := NB215_226.out; have hcz53_0 := zc0 BK226; have hcz53_1 := zc1 BK226; have hcz53_2 := zc2 BK226; have hfz53_0 := zfz BK226 0; have hfz53_1 := zfz BK226 1; have hfz53_2 := zfz BK226 2) | ((with_reducible refine gate_dst (N := 95) rfl ?_); refine Kd.R_lit (Kd.int .i64) _ 2 ?hg (N := 95) ?hd (xs := ([t222] : List Int)) (inner := [.int .i64 t222]) (ok := fun _ => True) (okp := fun _ => True) ?hr ?hp (fun _ hk => hk) trivial (Below.refl _ _) (Nat.le_refl _) (by simp) ?_; (case hd => rfl); (case hg => rfl); (case hr => first | (go_simp; done) | (go_simp; rfl)); (case hp => exact (Reps.one (show Kd.M (Kd.int .i64) _ _ _ t222 [.int .i64 t222] from rfl) (Reps.none _ _))); intro v228 w54 ho55 hb hg_ hnew_; clear hg_ hnew_; (first | rw [← Ny227.out] at ho55 | (simp only [Int.reduceToNat] at ho55; rw [← Ny227.out] at ho55)); have HO229 := zK (Kd.R_lower ho55 (below_size (zo HB))); replace BK213 := zbb BK213 hb; replace BK214 := zbb BK214 hb; replace BK215 := zbb BK215 hb; replace BK226 := zK (blk_below (g := gb226) (o := .cells #[.slice none 0 0, .int .i64 t222, .bool true] 88 (0, 0)) (by refine zM ?_; refine blk_put (cs := #[.slice none 0 0, .int .i64 t222, .bool false]) ?_ 2 _ rfl; refine zM ?_; refine blk_put (cs := #[.slice none 0 0, .int .i64 0, .bool false]) ?_ 1 _ rfl; refine zM ?_; refine blk_put (cs := #[.slice none 0 0, .int .i64 0, .bool false]) ?_ 0 _ rfl; refine zM ?_; exact BK226.out) hb); replace HB := zst HB hb; clear hb ho55; have hcz56_0 := zc0 BK213; have hcz56_1 := zc1 BK213; have hcz56_2 := zc2 BK213; have hfz56_0 := zfz BK213 0; have hfz56_1 := zfz BK213 1; have hfz56_2 := zfz BK213 2)))
           go_loopg [18, 99] kj21 (fun kq v18 v99 w' => ∃ (x18_3 : List Int) (x99_3 : Int) (x216001_3 : Int) (x216002_3 : Bool) (x227000_3 : List Int) (u227000 : Value), v99 = .int .i64 x99_3 ∧ Aside0 (euclid_row_less.l0 kq (wrap64 (Int.tdiv t222 a0_1)) t224 x18_3 (l0_0.length : Int) x99_3 l0_0 a0_1 a0_2 l1_0 a1_1 a1_2 x227000_3 t222 true = some (r1, r2, r3)) ∧ Aside0 (kq ≤ kj21) ∧ Aside0 (Kd.R (Kd.int .i64) 2 w' w.heap.size (fun k_ => some k_ ≠ (u227000 : Value).ownBlock) v18 x18_3) ∧ Aside0 (Kd.R (Kd.int .i64) 2 w' w.heap.size (fun k_ => some k_ ≠ (v18 : Value).ownBlock) u227000 x227000_3) ∧ Aside0 (w'.heap[gb213]? = some (.cells #[(.slice A0_0 l0_0.length c0_0), .int .i64 a0_1, .bool a0_2] 88 (0, 0))) ∧ Aside0 (w'.heap[gb214]? = some (.cells #[(.slice A1_0 l1_0.length c1_0), .int .i64 a1_1, .bool a1_2] 88 (0, 0))) ∧ Aside0 (w'.heap[gb215]? = some (.cells #[(.slice none 0 0), .int .i64 x216001_3, .bool x216002_3] 88 (0, 0))) ∧ Aside0 (w'.heap[gb226]? = some (.cells #[u227000, .int .i64 t222, .bool true] 88 (0, 0))) ∧ Aside0 (Below w.heap.size w w'))
           case atStart => exact ⟨(y227), (0), (x216001_21), (x216002_21), (([] : List Int)), (.slice none 0 0), (by first | rfl | (simp; done) | (simp [*]; done)), H', ⟨Nat.le_refl _⟩, ⟨by (with_reducible repeat (first | apply Kd.R_alloc | apply Kd.R_drewN | apply Kd.R_drew)); exact Kd.R_mono HO229.out (fun _ hk => (by simp [Value.ownBlock]))⟩, ⟨by first | exact Kd.R_nil _ _ _ _ _ | exact Kd.N_nil _ _ _ _ _ | exact Kd.V_nil _ _ _ _ _ | exact Kd.Q_nil _ _ _ _ _ | exact Kd.S_nil _ _ _ _ _⟩, ⟨zb BK213⟩, ⟨zb BK214⟩, ⟨zb BK215⟩, ⟨zb BK226⟩, ⟨zo HB⟩⟩
           case round =>
            clear H'; try clear c1; try clear c2; try clear p2
            try clear c3; try clear c4; try clear c5; try clear c6
            try clear p6; try clear c9; try clear c10; try clear c11
            try clear c13; try clear c15; try clear c16; try clear c18
            try clear c19; try clear c20; try clear c23; try clear c23b0
            try clear c26; try clear c27; try clear c28; try clear c29
            try clear c31; try clear c32; try clear c35; try clear c37
            try clear c38; try clear c38b0; try clear c38b1; try clear c39
            try clear c39b0; try clear c39b1; try clear c41; try clear c42
            try clear c43; try clear c45; try clear c50; try clear c51
            try clear c52; try clear hcz12_0; try clear hcz12_1; try clear hcz12_2
            try clear hcz14_0; try clear hcz14_1; try clear hcz14_2; try clear hcz17_0
            try clear hcz17_1; try clear hcz17_2; try clear hcz21_0; try clear hcz21_1
            try clear hcz21_2; try clear hcz30_0; try clear hcz30_1; try clear hcz30_2
            try clear hcz33_0; try clear hcz33_1; try clear hcz33_2; try clear hcz44_0
            try clear hcz44_1; try clear hcz44_2; try clear hcz46_0; try clear hcz46_1
            try clear hcz46_2; try clear hcz48_0; try clear hcz48_1; try clear hcz48_2
            try clear hcz53_0; try clear hcz53_1; try clear hcz53_2; try clear hcz56_0
            try clear hcz56_1; try clear hcz56_2; try clear hfz12_0; try clear hfz12_1
            try clear hfz12_2; try clear hfz14_0; try clear hfz14_1; try clear hfz14_2
            try clear hfz17_0; try clear hfz17_1; try clear hfz17_2; try clear hfz21_0
            try clear hfz21_1; try clear hfz21_2; try clear hfz30_0; try clear hfz30_1
            try clear hfz30_2; try clear hfz33_0; try clear hfz33_1; try clear hfz33_2
            try clear hfz44_0; try clear hfz44_1; try clear hfz44_2; try clear hfz46_0
            try clear hfz46_1; try clear hfz46_2; try clear hfz48_0; try clear hfz48_1
            try clear hfz48_2; try clear hfz53_0; try clear hfz53_1; try clear hfz53_2
            try clear hfz56_0; try clear hfz56_1; try clear hfz56_2; try clear p2
            obtain ⟨x18_3, x99_3, x216001_3, x216002_3, x227000_3, u227000, rfl, HA, HK3, HO_18, HO_227000, BK213, BK214, BK215, BK226, HB⟩ := hrel
            cases gk with
            | zero => exact absurd HA.out (by simp [euclid_row_less.l0])
            | succ k3 =>
             have H := HA.out; clear HA
             simp only [euclid_row_less.l0] at H
             by_cases c57 : x99_3 < (l0_0.length : Int)
             ·rw [if_pos c57] at H
              have c57b0 : decide (x99_3 < (l0_0.length : Int)) = true := decide_eq_true c57
              clear c57
              by_cases c58 : 0 ≤ x99_3
              ·rw [if_pos c58] at H
               have c58b0 : decide (0 ≤ x99_3) = true := decide_eq_true c58; clear c58
               by_cases c59 : x99_3 < (l0_0.length : Int)
               ·rw [if_pos c59] at H
                have c59b0 : decide (x99_3 < (l0_0.length : Int)) = true := decide_eq_true c59
                clear c59; replace H := zob H
                obtain ⟨⟨t231, t232⟩, A600, H⟩ := H
                replace H : (if x99_3 < (l1_0.length : Int) then ((num_Mul.f (rd l1_0 x99_3) t224).bind fun bt234 => ((num_Sub.f t231 bt234.1).bind fun bt236 => (if t232 = true then (if bt234.2 = true then (if bt236.2 = true then (if x227000_3.length < 17592186044416 then (if x18_3.length < 17592186044416 then (euclid_row_less.l0 k3 (wrap64 (Int.tdiv t222 a0_1)) t224 (x18_3 ++ [bt236.1]) (l0_0.length : Int) (wrap64 (x99_3 + 1)) l0_0 a0_1 a0_2 l1_0 a1_1 a1_2 (x227000_3 ++ [bt236.1]) t222 true) else (none)) else (none)) else (some (([] : List Int), 0, false))) else (some (([] : List Int), 0, false))) else (some (([] : List Int), 0, false))))) else (none)) = some (r1, r2, r3) := H
                have A60 := zK A600; clear A600
                by_cases c61 : x99_3 < (l1_0.length : Int)
                ·rw [if_pos c61] at H
                 have c61b0 : decide (x99_3 < (l1_0.length : Int)) = true := decide_eq_true c61
                 clear c61; replace H := zob H
                 obtain ⟨⟨t234, t235⟩, A620, H⟩ := H
                 replace H : ((num_Sub.f t231 t234).bind fun bt236 => (if t232 = true then (if t235 = true then (if bt236.2 = true then (if x227000_3.length < 17592186044416 then (if x18_3.length < 17592186044416 then (euclid_row_less.l0 k3 (wrap64 (Int.tdiv t222 a0_1)) t224 (x18_3 ++ [bt236.1]) (l0_0.length : Int) (wrap64 (x99_3 + 1)) l0_0 a0_1 a0_2 l1_0 a1_1 a1_2 (x227000_3 ++ [bt236.1]) t222 true) else (none)) else (none)) else (some (([] : List Int), 0, false))) else (some (([] : List Int), 0, false))) else (some (([] : List Int), 0, false)))) = some (r1, r2, r3) := H
                 have A62 := zK A620; clear A620; replace H := zob H
                 obtain ⟨⟨t236, t237⟩, A630, H⟩ := H
                 replace H : (if t232 = true then (if t235 = true then (if t237 = true then (if x227000_3.length < 17592186044416 then (if x18_3.length < 17592186044416 then (euclid_row_less.l0 k3 (wrap64 (Int.tdiv t222 a0_1)) t224 (x18_3 ++ [t236]) (l0_0.length : Int) (wrap64 (x99_3 + 1)) l0_0 a0_1 a0_2 l1_0 a1_1 a1_2 (x227000_3 ++ [t236]) t222 true) else (none)) else (none)) else (some (([] : List Int), 0, false))) else (some (([] : List Int), 0, false))) else (some (([] : List Int), 0, false))) = some (r1, r2, r3) := H
                 have A63 := zK A630; clear A630
                 by_cases c64 : t232 = true
                 ·subst c64
                  have H1 : (if t235 = true then (if t237 = true then (if x227000_3.length < 17592186044416 then (if x18_3.length < 17592186044416 then (euclid_row_less.l0 k3 (wrap64 (Int.tdiv t222 a0_1)) t224 (x18_3 ++ [t236]) (l0_0.length : Int) (wrap64 (x99_3 + 1)) l0_0 a0_1 a0_2 l1_0 a1_1 a1_2 (x227000_3 ++ [t236]) t222 true) else (none)) else (none)) else (some (([] : List Int), 0, false))) else (some (([] : List Int), 0, false))) = some (r1, r2, r3) := by rw [if_pos rfl] at H; exact H
                  clear H; have H := H1; clear H1
                  by_cases c65 : t235 = true
                  ·subst c65
                   have H1 : (if t237 = true then (if x227000_3.length < 17592186044416 then (if x18_3.length < 17592186044416 then (euclid_row_less.l0 k3 (wrap64 (Int.tdiv t222 a0_1)) t224 (x18_3 ++ [t236]) (l0_0.length : Int) (wrap64 (x99_3 + 1)) l0_0 a0_1 a0_2 l1_0 a1_1 a1_2 (x227000_3 ++ [t236]) t222 true) else (none)) else (none)) else (some (([] : List Int), 0, false))) = some (r1, r2, r3) := by rw [if_pos rfl] at H; exact H
                   clear H; have H := H1; clear H1
                   by_cases c66 : t237 = true
                   ·subst c66
                    have H1 : (if x227000_3.length < 17592186044416 then (if x18_3.length < 17592186044416 then (euclid_row_less.l0 k3 (wrap64 (Int.tdiv t222 a0_1)) t224 (x18_3 ++ [t236]) (l0_0.length : Int) (wrap64 (x99_3 + 1)) l0_0 a0_1 a0_2 l1_0 a1_1 a1_2 (x227000_3 ++ [t236]) t222 true) else (none)) else (none)) = some (r1, r2, r3) := by rw [if_pos rfl] at H; exact H
                    clear H; have H := H1; clear H1
                    by_cases c67 : x227000_3.length < 17592186044416
                    ·rw [if_pos c67] at H
                     have LMc67 := zK c67; clear c67
                     obtain ⟨y238, hy238⟩ : ∃ y_ : List Int, y_ = (x227000_3 ++ [t236]) := ⟨_, rfl⟩
                     replace H : (if x18_3.length < 17592186044416 then (euclid_row_less.l0 k3 (wrap64 (Int.tdiv t222 a0_1)) t224 (x18_3 ++ [t236]) (l0_0.length : Int) (wrap64 (x99_3 + 1)) l0_0 a0_1 a0_2 l1_0 a1_1 a1_2 y238 t222 true) else (none)) = some (r1, r2, r3) := by first | (rw [hy238]; with_reducible exact H) | (have H2_ := (Option.bind_some _ _).symm.trans H; rw [hy238]; with_reducible exact H2_) | (have H2_ := (Option.bind_some _ _).symm.trans H; with_reducible exact H2_) | with_reducible exact H | (rw [hy238]; exact H) | exact H
                     have Ny238 := zK hy238; clear hy238
                     by_cases c68 : x18_3.length < 17592186044416
                     ·rw [if_pos c68] at H
                      have LMc68 := zK c68; clear c68
                      obtain ⟨y241, hy241⟩ : ∃ y_ : List Int, y_ = (x18_3 ++ [t236]) := ⟨_, rfl⟩
                      replace H : (euclid_row_less.l0 k3 (wrap64 (Int.tdiv t222 a0_1)) t224 y241 (l0_0.length : Int) (wrap64 (x99_3 + 1)) l0_0 a0_1 a0_2 l1_0 a1_1 a1_2 y238 t222 true) = some (r1, r2, r3) := by first | (rw [hy241]; with_reducible exact H) | (have H2_ := (Option.bind_some _ _).symm.trans H; rw [hy241]; with_reducible exact H2_) | (have H2_ := (Option.bind_some _ _).symm.trans H; with_reducible exact H2_) | with_reducible exact H | (rw [hy241]; exact H) | exact H
                      have Ny241 := zK hy241; clear hy241
                      have H' := zK H; clear H
                      have hnb69 := NB213_214.out
                      have hnc69 := NB214_213.out
                      have hnb70 := NB213_215.out
                      have hnc70 := NB215_213.out
                      have hnb71 := NB213_226.out
                      have hnc71 := NB226_213.out
                      have hcz72_0 := zc0 BK213
                      have hcz72_1 := zc1 BK213
                      have hcz72_2 := zc2 BK213
                      have hfz72_0 := zfz BK213 0
                      have hfz72_1 := zfz BK213 1
                      have hfz72_2 := zfz BK213 2
                      have p230 : 0 ≤ (x99_3 : Int) := zdt
                      have q230 : x99_3 < (l0_0.length : Int) := zdt
                      obtain ⟨ad230, e230, hx230_0⟩ := Kd.at_int HR0_0.out x99_3 p230 q230
                      cases e230
                      replace hx230_0 := zcl HB hx230_0
                      replace p230 := eq_true p230
                      replace q230 := eq_true q230
                      go_wp2_with (first | (go_at_call 64; (with_reducible refine (num_Mul.calls (rd l0_0 x99_3) (wrap64 (Int.tdiv t222 a0_1)) t231 true _ A60.out).mono ?_); rintro e w' ⟨rfl, ⟨nd, rfl⟩⟩; (try first | exact ⟨rfl, _, World.drewN_drewN _ _ _⟩ | exact ⟨rfl, _, Eq.trans (World.drewN_drewN _ _ _) (congrArg (World.drewN _) (Nat.add_assoc _ _ _))⟩); have hnb73 := NB214_215.out; have hnc73 := NB215_214.out; have hnb74 := NB214_226.out; have hnc74 := NB226_214.out; have hcz75_0 := zc0 BK214; have hcz75_1 := zc1 BK214; have hcz75_2 := zc2 BK214; have hfz75_0 := zfz BK214 0; have hfz75_1 := zfz BK214 1; have hfz75_2 := zfz BK214 2; have p233 : 0 ≤ (x99_3 : Int) := zdt; have q233 : x99_3 < (l1_0.length : Int) := zdt; obtain ⟨ad233, e233, hx233_0⟩ := Kd.at_int HR1_0.out x99_3 p233 q233; cases e233; replace hx233_0 := zcl HB hx233_0; replace p233 := eq_true p233; replace q233 := eq_true q233) | (go_at_call 64; (with_reducible refine (num_Mul.calls (rd l1_0 x99_3) t224 t234 true _ A62.out).mono ?_); rintro e w' ⟨rfl, ⟨nd, rfl⟩⟩; (try first | exact ⟨rfl, _, World.drewN_drewN _ _ _⟩ | exact ⟨rfl, _, Eq.trans (World.drewN_drewN _ _ _) (congrArg (World.drewN _) (Nat.add_assoc _ _ _))⟩)) | (go_at_call 71; (with_reducible refine (num_Sub.calls t231 t234 t236 true _ A63.out).mono ?_); rintro e w' ⟨rfl, ⟨nd, rfl⟩⟩; (try first | exact ⟨rfl, _, World.drewN_drewN _ _ _⟩ | exact ⟨rfl, _, Eq.trans (World.drewN_drewN _ _ _) (congrArg (World.drewN _) (Nat.add_assoc _ _ _))⟩); have hnb76 := NB226_215.out; have hnc76 := NB215_226.out; have hcz77_0 := zc0 BK226; have hcz77_1 := zc1 BK226; have hcz77_2 := zc2 BK226; have hfz77_0 := zfz BK226 0; have hfz77_1 := zfz BK226 1; have hfz77_2 := zfz BK226 2) | ((with_reducible refine gate_builtin (b := .append) (xs := #[.tmp 140, .tmp 142]) rfl ?_); at_builtin; refine Kd.R_append (Kd.int .i64) (w0 := w) w.heap.size rfl (.tmp 140) (.tmp 142) 23 2 (.int .i64 0) 8 rfl Try.underlying23 info2 rfl (by decide) (by omega) u227000 x227000_3 t236 [.int .i64 t236] (fun k_ => some k_ ≠ (u18 : Value).ownBlock) (fun _ => False) rfl rfl ?aP (fun _ hk => hk.elim) ?aF ?aO ?aB ?aS ?aL ?_; (case aP => exact rfl); (case aB => exact (zo HB)); (case aF => exact (fun k_ hk => Kd.fresh' (Kd.R_lt (zr HO_18)) k_ hk)); (case aO => exact (zr HO_227000)); (case aS => exact (below_size (zo HB))); (case aL => have := LMc67.out; omega); intro v239 w78 ho hb hg hat; rw [← Ny238.out] at ho; replace HO_18 := zK (Kd.R_after (ok := (fun _ => True)) (by (with_reducible repeat (first | apply Kd.R_alloc | apply Kd.R_drewN | apply Kd.R_drew)); exact Kd.R_mono HO_18.out (fun _ hk => ⟨trivial, hk⟩)) hg hat); replace BK213 := zK (blk_grown (g := gb213) (o := .cells #[.slice (some ad230) l0_0.length c0_0, .int .i64 a0_1, .bool a0_2] 88 (0, 0)) (zb BK213) hg (Kd.R_ne HO_227000.out BK213.out (by decide))); replace BK214 := zK (blk_grown (g := gb214) (o := .cells #[.slice (some ad233) l1_0.length c1_0, .int .i64 a1_1, .bool a1_2] 88 (0, 0)) (zb BK214) hg (Kd.R_ne HO_227000.out BK214.out (by decide))); replace BK215 := zK (blk_grown (g := gb215) (o := .cells #[.slice none 0 0, .int .i64 x216001_3, .bool x216002_3] 88 (0, 0)) (zb BK215) hg (Kd.R_ne HO_227000.out BK215.out (by decide))); replace BK226 := zK (blk_grown (g := gb226) (o := .cells #[u227000, .int .i64 t222, .bool true] 88 (0, 0)) (zb BK226) hg (Kd.R_ne HO_227000.out BK226.out (by decide))); replace HB := zK (hb); have HO240 := zK (ho); clear HO_227000 ho hb hg hat; obtain ⟨Ao79, co79, eo79⟩ := Kd.R_slice HO240.out; subst eo79; have hcz80_0 := zc0 BK226; have hcz80_1 := zc1 BK226; have hcz80_2 := zc2 BK226; have hfz80_0 := zfz BK226 0; have hfz80_1 := zfz BK226 1; have hfz80_2 := zfz BK226 2) | ((with_reducible refine gate_builtin (b := .append) (xs := #[.tmp 145, .tmp 147]) rfl ?_); at_builtin; refine Kd.R_append (Kd.int .i64) (w0 := w) w.heap.size rfl (.tmp 145) (.tmp 147) 23 2 (.int .i64 0) 8 rfl Try.underlying23 info2 rfl (by decide) (by omega) u18 x18_3 t236 [.int .i64 t236] (fun k_ => some k_ ≠ (.slice Ao79 y238.length co79 : Value).ownBlock) (fun _ => False) rfl (by first | (go_simp; done) | (go_simp; rfl)) ?aP (fun _ hk => hk.elim) ?aF ?aO ?aB ?aS ?aL ?_; (case aP => exact rfl); (case aB => exact (zo HB)); (case aF => exact (fun k_ hk => Kd.fresh' (Kd.R_lt (by (with_reducible repeat (first | apply Kd.R_alloc | apply Kd.R_drewN | apply Kd.R_drew)); exact (Kd.R_mono (Kd.R_far (p := ⟨gb226, 0, none⟩) (Kd.R_types HO240.out BK226.out (by decide)) (fun _ hk => hk.2) (.slice Ao79 y238.length co79)) (fun _ h_ => h_.1)))) k_ hk)); (case aO => exact (by (with_reducible repeat (first | apply Kd.R_alloc | apply Kd.R_drewN | apply Kd.R_drew)); exact Kd.R_mono (Kd.R_far (p := ⟨gb226, 0, none⟩) (Kd.R_types HO_18.out BK226.out (by decide)) (fun _ hk => hk.2) (.slice Ao79 y238.length co79)) (fun _ hk => hk.1.2))); (case aS => exact (below_size (zo HB))); (case aL => have := LMc68.out; omega); intro v242 w81 ho hb hg hat; rw [← Ny241.out] at ho; replace BK213 := zK (blk_grown (g := gb213) (o := .cells #[.slice (some ad230) l0_0.length c0_0, .int .i64 a0_1, .bool a0_2] 88 (0, 0)) (zb BK213) hg (Kd.R_ne HO_18.out BK213.out (by decide))); replace BK214 := zK (blk_grown (g := gb214) (o := .cells #[.slice (some ad233) l1_0.length c1_0, .int .i64 a1_1, .bool a1_2] 88 (0, 0)) (zb BK214) hg (Kd.R_ne HO_18.out BK214.out (by decide))); replace BK215 := zK (blk_grown (g := gb215) (o := .cells #[.slice none 0 0, .int .i64 x216001_3, .bool x216002_3] 88 (0, 0)) (zb BK215) hg (Kd.R_ne HO_18.out BK215.out (by decide))); replace HO240 := zK (Kd.R_after (ok := (fun _ => True)) (by (with_reducible repeat (first | apply Kd.R_alloc | apply Kd.R_drewN | apply Kd.R_drew)); exact Kd.R_mono (Kd.R_far (p := ⟨gb226, 0, none⟩) (Kd.R_types HO240.out BK226.out (by decide)) (fun _ hk => hk.2) (.slice Ao79 y238.length co79)) (fun _ hk => ⟨trivial, hk.1⟩)) hg hat); replace BK226 := zK (blk_grown (g := gb226) (o := .cells #[.slice Ao79 y238.length co79, .int .i64 t222, .bool true] 88 (0, 0)) (by refine zM ?_; refine blk_put (cs := #[u227000, .int .i64 t222, .bool true]) ?_ 0 _ rfl; refine zM ?_; exact BK226.out) hg (Kd.R_ne HO_18.out BK226.out (by decide))); replace HB := zK (hb); have HO243 := zK (ho); clear HO_18 ho hb hg hat))
                      skip
                      go_roundg k3
                      case measure => have := HJ4.out; have := HJ21.out; have := HK3.out; omega
                      case rel => exact ⟨(y241), (wrap64 (x99_3 + 1)), (x216001_3), (x216002_3), (y238), (.slice Ao79 y238.length co79), (by first | rfl | (simp; done) | (simp [*]; done)), H', ⟨by have := HJ4.out; have := HJ21.out; have := HK3.out; omega⟩, ⟨zr HO243⟩, ⟨by (with_reducible repeat (first | apply Kd.R_alloc | apply Kd.R_drewN | apply Kd.R_drew)); exact Kd.R_mono HO240.out (fun _ hk => hk.2)⟩, ⟨zb BK213⟩, ⟨zb BK214⟩, ⟨zb BK215⟩, ⟨zb BK226⟩, ⟨zo HB⟩⟩
                     ·rw [if_neg c68] at H
                      exact absurd H (by simp)
                    ·rw [if_neg c67] at H
                     exact absurd H (by simp)
                   ·replace c66 := Bool.eq_false_iff.mpr c66
                    subst c66
                    have H1 : (some (([] : List Int), 0, false)) = some (r1, r2, r3) := by rw [if_neg (show ¬ (false = true) by decide)] at H; exact H
                    clear H; have H := H1; clear H1
                    simp only [Option.some.injEq, Prod.mk.injEq] at H
                    obtain ⟨rfl, rfl, rfl⟩ := H
                    have hnb82 := NB213_214.out
                    have hnc82 := NB214_213.out
                    have hnb83 := NB213_215.out
                    have hnc83 := NB215_213.out
                    have hnb84 := NB213_226.out
                    have hnc84 := NB226_213.out
                    have hcz85_0 := zc0 BK213
                    have hcz85_1 := zc1 BK213
                    have hcz85_2 := zc2 BK213
                    have hfz85_0 := zfz BK213 0
                    have hfz85_1 := zfz BK213 1
                    have hfz85_2 := zfz BK213 2
                    have p230 : 0 ≤ (x99_3 : Int) := zdt
                    have q230 : x99_3 < (l0_0.length : Int) := zdt
                    obtain ⟨ad230, e230, hx230_0⟩ := Kd.at_int HR0_0.out x99_3 p230 q230
                    cases e230
                    replace hx230_0 := zcl HB hx230_0
                    replace p230 := eq_true p230
                    replace q230 := eq_true q230
                    go_wp2_with (first | (go_at_call 64; (with_reducible refine (num_Mul.calls (rd l0_0 x99_3) (wrap64 (Int.tdiv t222 a0_1)) t231 true _ A60.out).mono ?_); rintro e w' ⟨rfl, ⟨nd, rfl⟩⟩; (try first | exact ⟨rfl, _, World.drewN_drewN _ _ _⟩ | exact ⟨rfl, _, Eq.trans (World.drewN_drewN _ _ _) (congrArg (World.drewN _) (Nat.add_assoc _ _ _))⟩); have hnb86 := NB214_215.out; have hnc86 := NB215_214.out; have hnb87 := NB214_226.out; have hnc87 := NB226_214.out; have hcz88_0 := zc0 BK214; have hcz88_1 := zc1 BK214; have hcz88_2 := zc2 BK214; have hfz88_0 := zfz BK214 0; have hfz88_1 := zfz BK214 1; have hfz88_2 := zfz BK214 2; have p233 : 0 ≤ (x99_3 : Int) := zdt; have q233 : x99_3 < (l1_0.length : Int) := zdt; obtain ⟨ad233, e233, hx233_0⟩ := Kd.at_int HR1_0.out x99_3 p233 q233; cases e233; replace hx233_0 := zcl HB hx233_0; replace p233 := eq_true p233; replace q233 := eq_true q233) | (go_at_call 64; (with_reducible refine (num_Mul.calls (rd l1_0 x99_3) t224 t234 true _ A62.out).mono ?_); rintro e w' ⟨rfl, ⟨nd, rfl⟩⟩; (try first | exact ⟨rfl, _, World.drewN_drewN _ _ _⟩ | exact ⟨rfl, _, Eq.trans (World.drewN_drewN _ _ _) (congrArg (World.drewN _) (Nat.add_assoc _ _ _))⟩)) | (go_at_call 71; (with_reducible refine (num_Sub.calls t231 t234 t236 false _ A63.out).mono ?_); rintro e w' ⟨rfl, ⟨nd, rfl⟩⟩; (try first | exact ⟨rfl, _, World.drewN_drewN _ _ _⟩ | exact ⟨rfl, _, Eq.trans (World.drewN_drewN _ _ _) (congrArg (World.drewN _) (Nat.add_assoc _ _ _))⟩); have hnb89 := NB215_226.out; have hnc89 := NB226_215.out; have hcz90_0 := zc0 BK215; have hcz90_1 := zc1 BK215; have hcz90_2 := zc2 BK215; have hfz90_0 := zfz BK215 0; have hfz90_1 := zfz BK215 1; have hfz90_2 := zfz BK215 2))
                    skip
                    refine bodyPost_ret (results_cell_row rfl _ _ gb215 88 #[.slice none 0 0, .int .i64 0, .bool false] (0, 0) _ rfl (by refine zM ?_; refine blk_put (cs := #[.slice none 0 0, .int .i64 0, .bool x216002_3]) ?_ 2 _ rfl; refine zM ?_; refine blk_put (cs := #[.slice none 0 0, .int .i64 x216001_3, .bool x216002_3]) ?_ 1 _ rfl; refine zM ?_; refine blk_put (cs := #[.slice none 0 0, .int .i64 x216001_3, .bool x216002_3]) ?_ 0 _ rfl; refine zM ?_; exact BK215.out) Try.underlying88 rfl (by kernel_rfl)) rfl ?_
                    exact ⟨_, zR (h := zL (h := zo HB))⟩
                  ·replace c65 := Bool.eq_false_iff.mpr c65
                   subst c65
                   have H1 : (some (([] : List Int), 0, false)) = some (r1, r2, r3) := by rw [if_neg (show ¬ (false = true) by decide)] at H; exact H
                   clear H; have H := H1; clear H1
                   simp only [Option.some.injEq, Prod.mk.injEq] at H
                   obtain ⟨rfl, rfl, rfl⟩ := H
                   have hnb91 := NB213_214.out
                   have hnc91 := NB214_213.out
                   have hnb92 := NB213_215.out
                   have hnc92 := NB215_213.out
                   have hnb93 := NB213_226.out
                   have hnc93 := NB226_213.out
                   have hcz94_0 := zc0 BK213
                   have hcz94_1 := zc1 BK213
                   have hcz94_2 := zc2 BK213
                   have hfz94_0 := zfz BK213 0
                   have hfz94_1 := zfz BK213 1
                   have hfz94_2 := zfz BK213 2
                   have p230 : 0 ≤ (x99_3 : Int) := zdt
                   have q230 : x99_3 < (l0_0.length : Int) := zdt
                   obtain ⟨ad230, e230, hx230_0⟩ := Kd.at_int HR0_0.out x99_3 p230 q230
                   cases e230
                   replace hx230_0 := zcl HB hx230_0
                   replace p230 := eq_true p230
                   replace q230 := eq_true q230
                   go_wp2_with (first | (go_at_call 64; (with_reducible refine (num_Mul.calls (rd l0_0 x99_3) (wrap64 (Int.tdiv t222 a0_1)) t231 true _ A60.out).mono ?_); rintro e w' ⟨rfl, ⟨nd, rfl⟩⟩; (try first | exact ⟨rfl, _, World.drewN_drewN _ _ _⟩ | exact ⟨rfl, _, Eq.trans (World.drewN_drewN _ _ _) (congrArg (World.drewN _) (Nat.add_assoc _ _ _))⟩); have hnb95 := NB214_215.out; have hnc95 := NB215_214.out; have hnb96 := NB214_226.out; have hnc96 := NB226_214.out; have hcz97_0 := zc0 BK214; have hcz97_1 := zc1 BK214; have hcz97_2 := zc2 BK214; have hfz97_0 := zfz BK214 0; have hfz97_1 := zfz BK214 1; have hfz97_2 := zfz BK214 2; have p233 : 0 ≤ (x99_3 : Int) := zdt; have q233 : x99_3 < (l1_0.length : Int) := zdt; obtain ⟨ad233, e233, hx233_0⟩ := Kd.at_int HR1_0.out x99_3 p233 q233; cases e233; replace hx233_0 := zcl HB hx233_0; replace p233 := eq_true p233; replace q233 := eq_true q233) | (go_at_call 64; (with_reducible refine (num_Mul.calls (rd l1_0 x99_3) t224 t234 false _ A62.out).mono ?_); rintro e w' ⟨rfl, ⟨nd, rfl⟩⟩; (try first | exact ⟨rfl, _, World.drewN_drewN _ _ _⟩ | exact ⟨rfl, _, Eq.trans (World.drewN_drewN _ _ _) (congrArg (World.drewN _) (Nat.add_assoc _ _ _))⟩)) | (go_at_call 71; (with_reducible refine (num_Sub.calls t231 t234 t236 t237 _ A63.out).mono ?_); rintro e w' ⟨rfl, ⟨nd, rfl⟩⟩; (try first | exact ⟨rfl, _, World.drewN_drewN _ _ _⟩ | exact ⟨rfl, _, Eq.trans (World.drewN_drewN _ _ _) (congrArg (World.drewN _) (Nat.add_assoc _ _ _))⟩); have hnb98 := NB215_226.out; have hnc98 := NB226_215.out; have hcz99_0 := zc0 BK215; have hcz99_1 := zc1 BK215; have hcz99_2 := zc2 BK215; have hfz99_0 := zfz BK215 0; have hfz99_1 := zfz BK215 1; have hfz99_2 := zfz BK215 2))
                   skip
                   refine bodyPost_ret (results_cell_row rfl _ _ gb215 88 #[.slice none 0 0, .int .i64 0, .bool false] (0, 0) _ rfl (by refine zM ?_; refine blk_put (cs := #[.slice none 0 0, .int .i64 0, .bool x216002_3]) ?_ 2 _ rfl; refine zM ?_; refine blk_put (cs := #[.slice none 0 0, .int .i64 x216001_3, .bool x216002_3]) ?_ 1 _ rfl; refine zM ?_; refine blk_put (cs := #[.slice none 0 0, .int .i64 x216001_3, .bool x216002_3]) ?_ 0 _ rfl; refine zM ?_; exact BK215.out) Try.underlying88 rfl (by kernel_rfl)) rfl ?_
                   exact ⟨_, zR (h := zL (h := zo HB))⟩
                 ·replace c64 := Bool.eq_false_iff.mpr c64
                  subst c64
                  have H1 : (some (([] : List Int), 0, false)) = some (r1, r2, r3) := by rw [if_neg (show ¬ (false = true) by decide)] at H; exact H
                  clear H; have H := H1; clear H1
                  simp only [Option.some.injEq, Prod.mk.injEq] at H
                  obtain ⟨rfl, rfl, rfl⟩ := H
                  have hnb100 := NB213_214.out
                  have hnc100 := NB214_213.out
                  have hnb101 := NB213_215.out
                  have hnc101 := NB215_213.out
                  have hnb102 := NB213_226.out
                  have hnc102 := NB226_213.out
                  have hcz103_0 := zc0 BK213
                  have hcz103_1 := zc1 BK213
                  have hcz103_2 := zc2 BK213
                  have hfz103_0 := zfz BK213 0
                  have hfz103_1 := zfz BK213 1
                  have hfz103_2 := zfz BK213 2
                  have p230 : 0 ≤ (x99_3 : Int) := zdt
                  have q230 : x99_3 < (l0_0.length : Int) := zdt
                  obtain ⟨ad230, e230, hx230_0⟩ := Kd.at_int HR0_0.out x99_3 p230 q230
                  cases e230
                  replace hx230_0 := zcl HB hx230_0
                  replace p230 := eq_true p230
                  replace q230 := eq_true q230
                  go_wp2_with (first | (go_at_call 64; (with_reducible refine (num_Mul.calls (rd l0_0 x99_3) (wrap64 (Int.tdiv t222 a0_1)) t231 false _ A60.out).mono ?_); rintro e w' ⟨rfl, ⟨nd, rfl⟩⟩; (try first | exact ⟨rfl, _, World.drewN_drewN _ _ _⟩ | exact ⟨rfl, _, Eq.trans (World.drewN_drewN _ _ _) (congrArg (World.drewN _) (Nat.add_assoc _ _ _))⟩); have hnb104 := NB214_215.out; have hnc104 := NB215_214.out; have hnb105 := NB214_226.out; have hnc105 := NB226_214.out; have hcz106_0 := zc0 BK214; have hcz106_1 := zc1 BK214; have hcz106_2 := zc2 BK214; have hfz106_0 := zfz BK214 0; have hfz106_1 := zfz BK214 1; have hfz106_2 := zfz BK214 2; have p233 : 0 ≤ (x99_3 : Int) := zdt; have q233 : x99_3 < (l1_0.length : Int) := zdt; obtain ⟨ad233, e233, hx233_0⟩ := Kd.at_int HR1_0.out x99_3 p233 q233; cases e233; replace hx233_0 := zcl HB hx233_0; replace p233 := eq_true p233; replace q233 := eq_true q233) | (go_at_call 64; (with_reducible refine (num_Mul.calls (rd l1_0 x99_3) t224 t234 t235 _ A62.out).mono ?_); rintro e w' ⟨rfl, ⟨nd, rfl⟩⟩; (try first | exact ⟨rfl, _, World.drewN_drewN _ _ _⟩ | exact ⟨rfl, _, Eq.trans (World.drewN_drewN _ _ _) (congrArg (World.drewN _) (Nat.add_assoc _ _ _))⟩)) | (go_at_call 71; (with_reducible refine (num_Sub.calls t231 t234 t236 t237 _ A63.out).mono ?_); rintro e w' ⟨rfl, ⟨nd, rfl⟩⟩; (try first | exact ⟨rfl, _, World.drewN_drewN _ _ _⟩ | exact ⟨rfl, _, Eq.trans (World.drewN_drewN _ _ _) (congrArg (World.drewN _) (Nat.add_assoc _ _ _))⟩); have hnb107 := NB215_226.out; have hnc107 := NB226_215.out; have hcz108_0 := zc0 BK215; have hcz108_1 := zc1 BK215; have hcz108_2 := zc2 BK215; have hfz108_0 := zfz BK215 0; have hfz108_1 := zfz BK215 1; have hfz108_2 := zfz BK215 2))
                  skip
                  refine bodyPost_ret (results_cell_row rfl _ _ gb215 88 #[.slice none 0 0, .int .i64 0, .bool false] (0, 0) _ rfl (by refine zM ?_; refine blk_put (cs := #[.slice none 0 0, .int .i64 0, .bool x216002_3]) ?_ 2 _ rfl; refine zM ?_; refine blk_put (cs := #[.slice none 0 0, .int .i64 x216001_3, .bool x216002_3]) ?_ 1 _ rfl; refine zM ?_; refine blk_put (cs := #[.slice none 0 0, .int .i64 x216001_3, .bool x216002_3]) ?_ 0 _ rfl; refine zM ?_; exact BK215.out) Try.underlying88 rfl (by kernel_rfl)) rfl ?_
                  exact ⟨_, zR (h := zL (h := zo HB))⟩
                ·rw [if_neg c61] at H
                 exact absurd H (by simp)
               ·rw [if_neg c59] at H
                exact absurd H (by simp)
              ·rw [if_neg c58] at H
               exact absurd H (by simp)
             ·rw [if_neg c57] at H
              have c57b0 : decide (x99_3 < (l0_0.length : Int)) = false := decide_eq_false c57
              clear c57; replace H := zob H
              obtain ⟨⟨t244, t245⟩, A1090, H⟩ := H
              replace H : (if t245 = true then (euclid_row_less.j3 k3 t244 (t244 == 0) x227000_3 t222 true) else (euclid_row_less.j3 k3 t244 true x227000_3 t222 true)) = some (r1, r2, r3) := H
              have A109 := zK A1090; clear A1090
              have HC110 := zK H; clear H
              obtain ⟨Ao111, co111, eo111⟩ := Kd.R_slice HO_18.out
              subst eo111
              go_upto_region 33 with (first | (go_at_call 73; (with_reducible refine (num_Gcd.calls k3 _ _ x18_3 t244 t245 _ ?side1 ?side2 A109.out).mono ?_); (case side1 => repeat (first | exact (Kd.R_reads' HO_18.out).2.2 | (with_reducible refine cA ?_ _) | (with_reducible refine cN ?_ _) | (with_reducible refine cD ?_))); (case side2 => exact (Kd.R_reads' HO_18.out).2.1); rintro e w112 ⟨rfl, hb⟩; replace HO_18 := zK (Kd.R_below (zr HO_18) hb); replace HO_227000 := zK (Kd.R_below (zr HO_227000) hb); replace BK213 := zbb BK213 hb; replace BK214 := zbb BK214 hb; replace BK215 := zbb BK215 hb; replace BK226 := zbb BK226 hb; replace HB := zst HB hb; (try clear hb); (try clear hb2); (try clear hk); (try clear hi)))
              repeat (go_quiet (first | (go_at_call 73; (with_reducible refine (num_Gcd.calls k3 _ _ x18_3 t244 t245 _ ?side1 ?side2 A109.out).mono ?_); (case side1 => repeat (first | exact (Kd.R_reads' HO_18.out).2.2 | (with_reducible refine cA ?_ _) | (with_reducible refine cN ?_ _) | (with_reducible refine cD ?_))); (case side2 => exact (Kd.R_reads' HO_18.out).2.1); rintro e w112 ⟨rfl, hb⟩; replace HO_18 := zK (Kd.R_below (zr HO_18) hb); replace HO_227000 := zK (Kd.R_below (zr HO_227000) hb); replace BK213 := zbb BK213 hb; replace BK214 := zbb BK214 hb; replace BK215 := zbb BK215 hb; replace BK226 := zbb BK226 hb; replace HB := zst HB hb; (try clear hb); (try clear hb2); (try clear hk); (try clear hi))); go_upto_region 33 with (first | (go_at_call 73; (with_reducible refine (num_Gcd.calls k3 _ _ x18_3 t244 t245 _ ?side1 ?side2 A109.out).mono ?_); (case side1 => repeat (first | exact (Kd.R_reads' HO_18.out).2.2 | (with_reducible refine cA ?_ _) | (with_reducible refine cN ?_ _) | (with_reducible refine cD ?_))); (case side2 => exact (Kd.R_reads' HO_18.out).2.1); rintro e w112 ⟨rfl, hb⟩; replace HO_18 := zK (Kd.R_below (zr HO_18) hb); replace HO_227000 := zK (Kd.R_below (zr HO_227000) hb); replace BK213 := zbb BK213 hb; replace BK214 := zbb BK214 hb; replace BK215 := zbb BK215 hb; replace BK226 := zbb BK226 hb; replace HB := zst HB hb; (try clear hb); (try clear hb2); (try clear hk); (try clear hi))))
              (try simp only [Act.put, List.setIfInBounds_toArray, List.set_cons_zero, List.set_cons_succ])
              go_cut [160] (fun v160 wc => ∃ (kq : Nat) (x160_109 : Bool), v160 = .bool x160_109 ∧ Aside0 (euclid_row_less.j3 kq t244 x160_109 x227000_3 t222 true = some (r1, r2, r3)) ∧ Aside0 (kq ≤ k3) ∧ Aside0 (Kd.R (Kd.int .i64) 2 wc w.heap.size (fun _ => True) u227000 x227000_3) ∧ Aside0 (wc.heap[gb213]? = some (.cells #[(.slice A0_0 l0_0.length c0_0), .int .i64 a0_1, .bool a0_2] 88 (0, 0))) ∧ Aside0 (wc.heap[gb214]? = some (.cells #[(.slice A1_0 l1_0.length c1_0), .int .i64 a1_1, .bool a1_2] 88 (0, 0))) ∧ Aside0 (wc.heap[gb215]? = some (.cells #[(.slice none 0 0), .int .i64 x216001_3, .bool x216002_3] 88 (0, 0))) ∧ Aside0 (wc.heap[gb226]? = some (.cells #[u227000, .int .i64 t222, .bool true] 88 (0, 0))) ∧ Aside0 (Below w.heap.size w wc))
              case first =>
               have H := HC110.out; clear HC110
               by_cases c113 : t245 = true
               ·subst c113
                have H1 : (euclid_row_less.j3 k3 t244 (t244 == 0) x227000_3 t222 true) = some (r1, r2, r3) := by rw [if_pos rfl] at H; exact H
                clear H; have H := H1; clear H1
                have H' := zK H; clear H
                go_wp2
                repeat (go_quiet (fail); try go_wp2)
                go_meet
                case rel => exact ⟨_, ((t244 == 0)), (by first | rfl | (simp; done) | (simp [*]; done)), H', ⟨by have := HJ4.out; have := HJ21.out; have := HK3.out; first | omega | exact Nat.le_refl _⟩, ⟨by (with_reducible repeat (first | apply Kd.R_alloc | apply Kd.R_drewN | apply Kd.R_drew)); exact Kd.R_mono HO_227000.out (fun _ hk => trivial)⟩, ⟨zb BK213⟩, ⟨zb BK214⟩, ⟨zb BK215⟩, ⟨zb BK226⟩, ⟨zo HB⟩⟩
               ·replace c113 := Bool.eq_false_iff.mpr c113
                subst c113
                have H1 : (euclid_row_less.j3 k3 t244 true x227000_3 t222 true) = some (r1, r2, r3) := by rw [if_neg (show ¬ (false = true) by decide)] at H; exact H
                clear H; have H := H1; clear H1
                have H' := zK H; clear H
                go_wp2
                repeat (go_quiet (fail); try go_wp2)
                go_meet
                case rel => exact ⟨_, (true), (by first | rfl | (simp; done) | (simp [*]; done)), H', ⟨by have := HJ4.out; have := HJ21.out; have := HK3.out; first | omega | exact Nat.le_refl _⟩, ⟨by (with_reducible repeat (first | apply Kd.R_alloc | apply Kd.R_drewN | apply Kd.R_drew)); exact Kd.R_mono HO_227000.out (fun _ hk => trivial)⟩, ⟨zb BK213⟩, ⟨zb BK214⟩, ⟨zb BK215⟩, ⟨zb BK226⟩, ⟨zo HB⟩⟩
              case rest =>
               clear HC110; try clear c1; try clear c2; try clear p2
               try clear q2; try clear hx2; try clear c3; try clear c4
               try clear c5; try clear c6; try clear p6; try clear c7
               try clear c8; try clear c9; try clear c10; try clear c11
               try clear c13; try clear c15; try clear c16; try clear c18
               try clear c19; try clear c20; try clear c23; try clear c23b0
               try clear p23; try clear q23; try clear hx23; try clear c26
               try clear c27; try clear c28; try clear c29; try clear c31
               try clear c32; try clear c35; try clear c37; try clear c38
               try clear c38b0; try clear c38b1; try clear c39; try clear c39b0
               try clear c39b1; try clear c41; try clear c42; try clear c43
               try clear c45; try clear c50; try clear c51; try clear c52
               try clear c57; try clear c57b0; try clear c58; try clear c58b0
               try clear c59; try clear c59b0; try clear c61; try clear c61b0
               try clear c64; try clear p64; try clear c65; try clear c66
               try clear c67; try clear c68; try clear c69; try clear c70
               try clear c71; try clear c73; try clear c74; try clear c76
               try clear c82; try clear c83; try clear c84; try clear c86
               try clear c87; try clear c89; try clear c91; try clear c92
               try clear c93; try clear c95; try clear c96; try clear c98
               try clear c100; try clear c101; try clear c102; try clear c104
               try clear c105; try clear c107; try clear c113; try clear hcz103_0
               try clear hcz103_1; try clear hcz103_2; try clear hcz106_0; try clear hcz106_1
               try clear hcz106_2; try clear hcz108_0; try clear hcz108_1; try clear hcz108_2
               try clear hcz12_0; try clear hcz12_1; try clear hcz12_2; try clear hcz14_0
               try clear hcz14_1; try clear hcz14_2; try clear hcz17_0; try clear hcz17_1
               try clear hcz17_2; try clear hcz21_0; try clear hcz21_1; try clear hcz21_2
               try clear hcz30_0; try clear hcz30_1; try clear hcz30_2; try clear hcz33_0
               try clear hcz33_1; try clear hcz33_2; try clear hcz44_0; try clear hcz44_1
               try clear hcz44_2; try clear hcz46_0; try clear hcz46_1; try clear hcz46_2
               try clear hcz48_0; try clear hcz48_1; try clear hcz48_2; try clear hcz53_0
               try clear hcz53_1; try clear hcz53_2; try clear hcz56_0; try clear hcz56_1
               try clear hcz56_2; try clear hcz72_0; try clear hcz72_1; try clear hcz72_2
               try clear hcz75_0; try clear hcz75_1; try clear hcz75_2; try clear hcz77_0
               try clear hcz77_1; try clear hcz77_2; try clear hcz80_0; try clear hcz80_1
               try clear hcz80_2; try clear hcz85_0; try clear hcz85_1; try clear hcz85_2
               try clear hcz88_0; try clear hcz88_1; try clear hcz88_2; try clear hcz90_0
               try clear hcz90_1; try clear hcz90_2; try clear hcz94_0; try clear hcz94_1
               try clear hcz94_2; try clear hcz97_0; try clear hcz97_1; try clear hcz97_2
               try clear hcz99_0; try clear hcz99_1; try clear hcz99_2; try clear hfz103_0
               try clear hfz103_1; try clear hfz103_2; try clear hfz106_0; try clear hfz106_1
               try clear hfz106_2; try clear hfz108_0; try clear hfz108_1; try clear hfz108_2
               try clear hfz12_0; try clear hfz12_1; try clear hfz12_2; try clear hfz14_0
               try clear hfz14_1; try clear hfz14_2; try clear hfz17_0; try clear hfz17_1
               try clear hfz17_2; try clear hfz21_0; try clear hfz21_1; try clear hfz21_2
               try clear hfz30_0; try clear hfz30_1; try clear hfz30_2; try clear hfz33_0
               try clear hfz33_1; try clear hfz33_2; try clear hfz44_0; try clear hfz44_1
               try clear hfz44_2; try clear hfz46_0; try clear hfz46_1; try clear hfz46_2
               try clear hfz48_0; try clear hfz48_1; try clear hfz48_2; try clear hfz53_0
               try clear hfz53_1; try clear hfz53_2; try clear hfz56_0; try clear hfz56_1
               try clear hfz56_2; try clear hfz72_0; try clear hfz72_1; try clear hfz72_2
               try clear hfz75_0; try clear hfz75_1; try clear hfz75_2; try clear hfz77_0
               try clear hfz77_1; try clear hfz77_2; try clear hfz80_0; try clear hfz80_1
               try clear hfz80_2; try clear hfz85_0; try clear hfz85_1; try clear hfz85_2
               try clear hfz88_0; try clear hfz88_1; try clear hfz88_2; try clear hfz90_0
               try clear hfz90_1; try clear hfz90_2; try clear hfz94_0; try clear hfz94_1
               try clear hfz94_2; try clear hfz97_0; try clear hfz97_1; try clear hfz97_2
               try clear hfz99_0; try clear hfz99_1; try clear hfz99_2; try clear hx230_0
               try clear hx233_0; try clear p2; try clear p230; try clear p233; try clear p6; try clear q230; try clear q233
               obtain ⟨kq, x160_109, rfl, HA, HJ109, HO_227000, BK213, BK214, BK215, BK226, HB⟩ := hcut
               cases kq with
               | zero => exact absurd HA.out (by simp [euclid_row_less.j3])
               | succ kj109 =>
                have H := HA.out; clear HA
                simp only [euclid_row_less.j3] at H
                by_cases c114 : x160_109 = true
                ·subst c114
                 have H1 : (some (([] : List Int), 0, false)) = some (r1, r2, r3) := by rw [if_pos rfl] at H; exact H
                 clear H; have H := H1; clear H1
                 simp only [Option.some.injEq, Prod.mk.injEq] at H
                 obtain ⟨rfl, rfl, rfl⟩ := H
                 have hnb115 := NB215_213.out
                 have hnc115 := NB213_215.out
                 have hnb116 := NB215_214.out
                 have hnc116 := NB214_215.out
                 have hnb117 := NB215_226.out
                 have hnc117 := NB226_215.out
                 have hcz118_0 := zc0 BK215
                 have hcz118_1 := zc1 BK215
                 have hcz118_2 := zc2 BK215
                 have hfz118_0 := zfz BK215 0
                 have hfz118_1 := zfz BK215 1
                 have hfz118_2 := zfz BK215 2
                 go_wp2
                 repeat (go_quiet (fail); try go_wp2)
                 refine bodyPost_ret (results_cell_row rfl _ _ gb215 88 #[.slice none 0 0, .int .i64 0, .bool false] (0, 0) _ rfl (by refine zM ?_; refine blk_put (cs := #[.slice none 0 0, .int .i64 0, .bool x216002_3]) ?_ 2 _ rfl; refine zM ?_; refine blk_put (cs := #[.slice none 0 0, .int .i64 x216001_3, .bool x216002_3]) ?_ 1 _ rfl; refine zM ?_; refine blk_put (cs := #[.slice none 0 0, .int .i64 x216001_3, .bool x216002_3]) ?_ 0 _ rfl; refine zM ?_; exact BK215.out) Try.underlying88 rfl (by kernel_rfl)) rfl ?_
                 exact ⟨_, zR (h := zL (h := zo HB))⟩
                ·replace c114 := Bool.eq_false_iff.mpr c114
                 subst c114
                 have H1 : (if t244 = 0 then (none) else (euclid_row_less.l1 kj109 t244 (x227000_3.length : Int) 0 x227000_3 (wrap64 (Int.tdiv t222 t244)) true)) = some (r1, r2, r3) := by rw [if_neg (show ¬ (false = true) by decide)] at H; exact H
                 clear H; have H := H1; clear H1
                 by_cases c119 : t244 = 0
                 ·rw [if_pos c119] at H
                  exact absurd H (by simp)
                 ·rw [if_neg c119] at H
                  have c119b0 : (t244 == 0) = false := beq_eq_false_iff_ne.mpr c119
                  have c119b1 : (t244 != 0) = true := bne_iff_ne.mpr c119
                  have H' := zK H; clear H
                  have hnb120 := NB226_213.out
                  have hnc120 := NB213_226.out
                  have hnb121 := NB226_214.out
                  have hnc121 := NB214_226.out
                  have hnb122 := NB226_215.out
                  have hnc122 := NB215_226.out
                  have hcz123_0 := zc0 BK226
                  have hcz123_1 := zc1 BK226
                  have hcz123_2 := zc2 BK226
                  have hfz123_0 := zfz BK226 0
                  have hfz123_1 := zfz BK226 1
                  have hfz123_2 := zfz BK226 2
                  obtain ⟨Ao124, co124, eo124⟩ := Kd.R_slice HO_227000.out
                  subst eo124
                  go_wp2
                  repeat (go_quiet (fail); try go_wp2)
                  go_loopg [170] kj109 (fun kq v170 w' => ∃ (x170_5 : Int) (x227000_5 : List Int) (u227000 : Value), v170 = .int .i64 x170_5 ∧ Aside0 (euclid_row_less.l1 kq t244 (x227000_3.length : Int) x170_5 x227000_5 (wrap64 (Int.tdiv t222 t244)) true = some (r1, r2, r3)) ∧ Aside0 (kq ≤ kj109) ∧ Aside0 (Kd.R (Kd.int .i64) 2 w' w.heap.size (fun _ => True) u227000 x227000_5) ∧ Aside0 (w'.heap[gb213]? = some (.cells #[(.slice A0_0 l0_0.length c0_0), .int .i64 a0_1, .bool a0_2] 88 (0, 0))) ∧ Aside0 (w'.heap[gb214]? = some (.cells #[(.slice A1_0 l1_0.length c1_0), .int .i64 a1_1, .bool a1_2] 88 (0, 0))) ∧ Aside0 (w'.heap[gb215]? = some (.cells #[(.slice none 0 0), .int .i64 x216001_3, .bool x216002_3] 88 (0, 0))) ∧ Aside0 (w'.heap[gb226]? = some (.cells #[u227000, .int .i64 (wrap64 (Int.tdiv t222 t244)), .bool true] 88 (0, 0))) ∧ Aside0 (Below w.heap.size w w'))
                  case atStart => exact ⟨(0), (x227000_3), (.slice Ao124 x227000_3.length co124), (by first | rfl | (simp; done) | (simp [*]; done)), H', ⟨Nat.le_refl _⟩, ⟨by (with_reducible repeat (first | apply Kd.R_alloc | apply Kd.R_drewN | apply Kd.R_drew)); exact Kd.R_mono (Kd.R_far (p := ⟨gb226, 1, none⟩) (Kd.R_types HO_227000.out BK226.out (by decide)) (fun _ hk => hk.2) (.int .i64 (wrap64 (Int.tdiv t222 t244)))) (fun _ hk => trivial)⟩, ⟨zb BK213⟩, ⟨zb BK214⟩, ⟨zb BK215⟩, ⟨by refine zM ?_; refine blk_put (cs := #[.slice Ao124 x227000_3.length co124, .int .i64 t222, .bool true]) ?_ 1 _ rfl; refine zM ?_; exact BK226.out⟩, ⟨zo HB⟩⟩
                  case round =>
                   clear H'; try clear c1; try clear c2; try clear p2
                   try clear q2; try clear hx2; try clear c3; try clear c4
                   try clear c5; try clear c6; try clear p6; try clear c7
                   try clear c8; try clear c9; try clear c10; try clear c11
                   try clear c12; try clear c13; try clear c15; try clear c16
                   try clear c18; try clear c19; try clear c20; try clear c23
                   try clear c23b0; try clear p23; try clear q23; try clear hx23
                   try clear c26; try clear c27; try clear c28; try clear c29
                   try clear c31; try clear c32; try clear c35; try clear c37
                   try clear c38; try clear c38b0; try clear c38b1; try clear c39
                   try clear c39b0; try clear c39b1; try clear c41; try clear c42
                   try clear c43; try clear c45; try clear c50; try clear c51
                   try clear c52; try clear c57; try clear c57b0; try clear c58
                   try clear c58b0; try clear c59; try clear c59b0; try clear c61
                   try clear c61b0; try clear c64; try clear p64; try clear c65
                   try clear c66; try clear c67; try clear c68; try clear c69
                   try clear c70; try clear c71; try clear c73; try clear c74
                   try clear c76; try clear c82; try clear c83; try clear c84
                   try clear c86; try clear c87; try clear c89; try clear c91
                   try clear c92; try clear c93; try clear c95; try clear c96
                   try clear c98; try clear c100; try clear c101; try clear c102
                   try clear c104; try clear c105; try clear c107; try clear c113
                   try clear c114; try clear c115; try clear c116; try clear c117
                   try clear c119; try clear c119b0; try clear c119b1; try clear c120
                   try clear c121; try clear c122; try clear hcz103_0; try clear hcz103_1
                   try clear hcz103_2; try clear hcz106_0; try clear hcz106_1; try clear hcz106_2
                   try clear hcz108_0; try clear hcz108_1; try clear hcz108_2; try clear hcz118_0
                   try clear hcz118_1; try clear hcz118_2; try clear hcz123_0; try clear hcz123_1
                   try clear hcz123_2; try clear hcz12_0; try clear hcz12_1; try clear hcz12_2
                   try clear hcz14_0; try clear hcz14_1; try clear hcz14_2; try clear hcz17_0
                   try clear hcz17_1; try clear hcz17_2; try clear hcz21_0; try clear hcz21_1
                   try clear hcz21_2; try clear hcz30_0; try clear hcz30_1; try clear hcz30_2
                   try clear hcz33_0; try clear hcz33_1; try clear hcz33_2; try clear hcz44_0
                   try clear hcz44_1; try clear hcz44_2; try clear hcz46_0; try clear hcz46_1
                   try clear hcz46_2; try clear hcz48_0; try clear hcz48_1; try clear hcz48_2
                   try clear hcz53_0; try clear hcz53_1; try clear hcz53_2; try clear hcz56_0
                   try clear hcz56_1; try clear hcz56_2; try clear hcz72_0; try clear hcz72_1
                   try clear hcz72_2; try clear hcz75_0; try clear hcz75_1; try clear hcz75_2
                   try clear hcz77_0; try clear hcz77_1; try clear hcz77_2; try clear hcz80_0
                   try clear hcz80_1; try clear hcz80_2; try clear hcz85_0; try clear hcz85_1
                   try clear hcz85_2; try clear hcz88_0; try clear hcz88_1; try clear hcz88_2
                   try clear hcz90_0; try clear hcz90_1; try clear hcz90_2; try clear hcz94_0
                   try clear hcz94_1; try clear hcz94_2; try clear hcz97_0; try clear hcz97_1
                   try clear hcz97_2; try clear hcz99_0; try clear hcz99_1; try clear hcz99_2
                   try clear hfz103_0; try clear hfz103_1; try clear hfz103_2; try clear hfz106_0
                   try clear hfz106_1; try clear hfz106_2; try clear hfz108_0; try clear hfz108_1
                   try clear hfz108_2; try clear hfz118_0; try clear hfz118_1; try clear hfz118_2
                   try clear hfz123_0; try clear hfz123_1; try clear hfz123_2; try clear hfz12_0
                   try clear hfz12_1; try clear hfz12_2; try clear hfz14_0; try clear hfz14_1
                   try clear hfz14_2; try clear hfz17_0; try clear hfz17_1; try clear hfz17_2
                   try clear hfz21_0; try clear hfz21_1; try clear hfz21_2; try clear hfz30_0
                   try clear hfz30_1; try clear hfz30_2; try clear hfz33_0; try clear hfz33_1
                   try clear hfz33_2; try clear hfz44_0; try clear hfz44_1; try clear hfz44_2
                   try clear hfz46_0; try clear hfz46_1; try clear hfz46_2; try clear hfz48_0
                   try clear hfz48_1; try clear hfz48_2; try clear hfz53_0; try clear hfz53_1
                   try clear hfz53_2; try clear hfz56_0; try clear hfz56_1; try clear hfz56_2
                   try clear hfz72_0; try clear hfz72_1; try clear hfz72_2; try clear hfz75_0
                   try clear hfz75_1; try clear hfz75_2; try clear hfz77_0; try clear hfz77_1
                   try clear hfz77_2; try clear hfz80_0; try clear hfz80_1; try clear hfz80_2
                   try clear hfz85_0; try clear hfz85_1; try clear hfz85_2; try clear hfz88_0
                   try clear hfz88_1; try clear hfz88_2; try clear hfz90_0; try clear hfz90_1
                   try clear hfz90_2; try clear hfz94_0; try clear hfz94_1; try clear hfz94_2
                   try clear hfz97_0; try clear hfz97_1; try clear hfz97_2; try clear hfz99_0
                   try clear hfz99_1; try clear hfz99_2; try clear hx230_0; try clear hx233_0
                   try clear p2; try clear p23; try clear p230; try clear p233
                   try clear p6; try clear p64; try clear q2; try clear q23; try clear q230; try clear q233
                   obtain ⟨x170_5, x227000_5, u227000, rfl, HA, HK5, HO_227000, BK213, BK214, BK215, BK226, HB⟩ := hrel
                   cases gk with
                   | zero => exact absurd HA.out (by simp [euclid_row_less.l1])
                   | succ k5 =>
                    have H := HA.out; clear HA
                    simp only [euclid_row_less.l1] at H
                    by_cases c125 : x170_5 < (x227000_3.length : Int)
                    ·rw [if_pos c125] at H
                     have c125b0 : decide (x170_5 < (x227000_3.length : Int)) = true := decide_eq_true c125
                     clear c125
                     by_cases c126 : 0 ≤ x170_5
                     ·rw [if_pos c126] at H
                      have c126b0 : decide (0 ≤ x170_5) = true := decide_eq_true c126; clear c126
                      by_cases c127 : x170_5 < (x227000_5.length : Int)
                      ·rw [if_pos c127] at H
                       have c127b0 : decide (x170_5 < (x227000_5.length : Int)) = true := decide_eq_true c127
                       clear c127
                       by_cases c128 : t244 = 0
                       ·rw [if_pos c128] at H
                        exact absurd H (by simp)
                       ·rw [if_neg c128] at H
                        have c128b0 : (t244 == 0) = false := beq_eq_false_iff_ne.mpr c128
                        have c128b1 : (t244 != 0) = true := bne_iff_ne.mpr c128
                        obtain ⟨y247, hy247⟩ : ∃ y_ : List Int, y_ = (x227000_5.set (x170_5 : Int).toNat (wrap64 (Int.tdiv (rd x227000_5 x170_5) t244))) := ⟨_, rfl⟩
                        replace H : (euclid_row_less.l1 k5 t244 (x227000_3.length : Int) (wrap64 (x170_5 + 1)) y247 (wrap64 (Int.tdiv t222 t244)) true) = some (r1, r2, r3) := by first | (rw [hy247]; with_reducible exact H) | (have H2_ := (Option.bind_some _ _).symm.trans H; rw [hy247]; with_reducible exact H2_) | (have H2_ := (Option.bind_some _ _).symm.trans H; with_reducible exact H2_) | with_reducible exact H | (rw [hy247]; exact H) | exact H
                        have Ny247 := zK hy247; clear hy247
                        have H' := zK H; clear H
                        have hnb130 := NB226_213.out
                        have hnc130 := NB213_226.out
                        have hnb131 := NB226_214.out
                        have hnc131 := NB214_226.out
                        have hnb132 := NB226_215.out
                        have hnc132 := NB215_226.out
                        have hcz133_0 := zc0 BK226
                        have hcz133_1 := zc1 BK226
                        have hcz133_2 := zc2 BK226
                        have hfz133_0 := zfz BK226 0
                        have hfz133_1 := zfz BK226 1
                        have hfz133_2 := zfz BK226 2
                        obtain ⟨Ao134, co134, eo134⟩ := Kd.R_slice HO_227000.out
                        subst eo134
                        have p246 : 0 ≤ (x170_5 : Int) := zdt
                        have q246 : x170_5 < (x227000_5.length : Int) := zdt
                        obtain ⟨ad246, e246, hx246_0⟩ := Kd.at_int (Kd.R_reads' HO_227000.out).2.2 x170_5 p246 q246
                        cases e246
                        replace p246 := eq_true p246
                        replace q246 := eq_true q246
                        have p129 : 0 ≤ (x170_5 : Int) := zdt
                        have q129 : (x170_5 : Int) < ((x227000_5.length : Int) : Int) := zdt
                        obtain ⟨go129, co129, eo129, gb129, gl129, cl129, HG129⟩ := Kd.R_form HO_227000.out (by omega)
                        (first | cases eo129 | (injection eo129 with ea_ en_ ec_; (first | subst ea_ | (injection ea_ with ea_; subst ea_)); subst ec_; clear en_))
                        have GB129 := zK gb129
                        have GG129 := zK HG129; clear gb129 gl129 HG129
                        (first | simp only [add_plain] at hx246_0 | skip)
                        obtain ⟨hx129_0, hf129_0⟩ := Kd.R_celln 0 HO_227000.out (x170_5 : Int) p129 q129
                        replace p129 := eq_true p129
                        replace q129 := eq_true q129
                        have HP135 := Kd.R_putg HO_227000.out (x170_5 : Int) (wrap64 (Int.tdiv (rd x227000_5 x170_5) t244))
                        go_wp2_with (first | ((with_reducible refine gate_store (t := 2) (p := 180) rfl ?_); (try (rw [drewN_self wr]; generalize hq_ : World.drewN wr _ = wr; have n0_ := zK (Kd.R_at hq_ HO_227000.out); have n1_ := zK (blk_at hq_ BK213.out); have n2_ := zK (blk_at hq_ BK214.out); have n3_ := zK (blk_at hq_ BK215.out); have n4_ := zK (blk_at hq_ BK226.out); have n5_ := zK (below_at hq_ HB.out); clear hq_ HO_227000 BK213 BK214 BK215 BK226 HB; have HO_227000 := n0_; have BK213 := n1_; have BK214 := n2_; have BK215 := n3_; have BK226 := n4_; have HB := n5_; clear n0_ n1_ n2_ n3_ n4_ n5_; (try (have HP135 := Kd.R_putg HO_227000.out (x170_5 : Int) (wrap64 (Int.tdiv (rd x227000_5 x170_5) t244)))); (try (obtain ⟨hx_, hf_⟩ := Kd.R_celln 0 HO_227000.out (x170_5 : Int) (of_eq_true p129) (of_eq_true q129))))); refine store_event (t := 2) (p := 180) (v := ?vo_w136) (w1 := (wr.setCell ⟨go129, (x170_5 : Int).toNat, none⟩ (.int .i64 (wrap64 (Int.tdiv (rd x227000_5 x170_5) t244))))) ?hg ?ho ?hn ?hr ?_; (case ho => rfl); (case hg => rfl); (case hn => rfl); (case hr => first | (go_simp; done) | (go_simp; rfl)); intro w136 hw; have hg : wr.grownBy w136 (some go129) := (by rw [hw]; exact HP135.2); have hp_ : Kd.R (Kd.int .i64) 2 w136 w.heap.size (fun _ => True) (.slice (some ⟨go129, 0, none⟩) x227000_5.length co134) y247 := (by rw [hw, Ny247.out]; exact HP135.1); clear HP135; replace BK213 := zK (blk_grown (g := gb213) (o := .cells #[.slice A0_0 l0_0.length c0_0, .int .i64 a0_1, .bool a0_2] 88 (0, 0)) (zb BK213) hg (Kd.R_ne HO_227000.out BK213.out (by decide))); replace BK214 := zK (blk_grown (g := gb214) (o := .cells #[.slice A1_0 l1_0.length c1_0, .int .i64 a1_1, .bool a1_2] 88 (0, 0)) (zb BK214) hg (Kd.R_ne HO_227000.out BK214.out (by decide))); replace BK215 := zK (blk_grown (g := gb215) (o := .cells #[.slice none 0 0, .int .i64 x216001_3, .bool x216002_3] 88 (0, 0)) (zb BK215) hg (Kd.R_ne HO_227000.out BK215.out (by decide))); replace BK226 := zK (blk_grown (g := gb226) (o := .cells #[.slice (some ⟨go129, 0, none⟩) x227000_5.length co134, .int .i64 (wrap64 (Int.tdiv t222 t244)), .bool true] 88 (0, 0)) (zb BK226) hg (Kd.R_ne HO_227000.out BK226.out (by decide))); replace HO_227000 := zK (hp_); replace HB := zK ((by rw [hw]; exact yS (HB.out) GB129.out : Below w.heap.size w w136)); clear hg hw hp_))
                        skip
                        go_roundg k5
                        case measure => have := HJ4.out; have := HJ21.out; have := HK3.out; have := HJ109.out; have := HK5.out; omega
                        case rel => exact ⟨(wrap64 (x170_5 + 1)), (y247), (.slice (some ⟨go129, 0, none⟩) x227000_5.length co134), (by first | rfl | (simp; done) | (simp [*]; done)), H', ⟨by have := HJ4.out; have := HJ21.out; have := HK3.out; have := HJ109.out; have := HK5.out; omega⟩, ⟨zr HO_227000⟩, ⟨zb BK213⟩, ⟨zb BK214⟩, ⟨zb BK215⟩, ⟨zb BK226⟩, ⟨zo HB⟩⟩
                      ·rw [if_neg c127] at H
                       exact absurd H (by simp)
                     ·rw [if_neg c126] at H
                      exact absurd H (by simp)
                    ·rw [if_neg c125] at H
                     have c125b0 : decide (x170_5 < (x227000_3.length : Int)) = false := decide_eq_false c125
                     clear c125
                     simp only [Option.some.injEq, Prod.mk.injEq] at H
                     obtain ⟨rfl, rfl, rfl⟩ := H
                     have hnb137 := NB226_213.out
                     have hnc137 := NB213_226.out
                     have hnb138 := NB226_214.out
                     have hnc138 := NB214_226.out
                     have hnb139 := NB226_215.out
                     have hnc139 := NB215_226.out
                     have hcz140_0 := zc0 BK226
                     have hcz140_1 := zc1 BK226
                     have hcz140_2 := zc2 BK226
                     have hfz140_0 := zfz BK226 0
                     have hfz140_1 := zfz BK226 1
                     have hfz140_2 := zfz BK226 2
                     obtain ⟨Ao141, co141, eo141⟩ := Kd.R_slice HO_227000.out
                     subst eo141
                     have hnb142 := NB215_213.out
                     have hnc142 := NB213_215.out
                     have hnb143 := NB215_214.out
                     have hnc143 := NB214_215.out
                     have hcz144_0 := zc0 BK215
                     have hcz144_1 := zc1 BK215
                     have hcz144_2 := zc2 BK215
                     have hfz144_0 := zfz BK215 0
                     have hfz144_1 := zfz BK215 1
                     have hfz144_2 := zfz BK215 2
                     go_wp2
                     repeat (go_quiet (fail); try go_wp2)
                     refine bodyPost_ret (results_cell_row rfl _ _ gb215 88 #[.slice Ao141 x227000_5.length co141, .int .i64 (wrap64 (Int.tdiv t222 t244)), .bool true] (0, 0) _ rfl (by refine zM ?_; refine blk_put (cs := #[.slice Ao141 x227000_5.length co141, .int .i64 (wrap64 (Int.tdiv t222 t244)), .bool x216002_3]) ?_ 2 _ rfl; refine zM ?_; refine blk_put (cs := #[.slice Ao141 x227000_5.length co141, .int .i64 x216001_3, .bool x216002_3]) ?_ 1 _ rfl; refine zM ?_; refine blk_put (cs := #[.slice none 0 0, .int .i64 x216001_3, .bool x216002_3]) ?_ 0 _ rfl; refine zM ?_; exact BK215.out) Try.underlying88 rfl (by kernel_rfl)) rfl ?_
                     exact ⟨_, by first | rfl | (simp [errW_none, errW_some] <;> rfl) | (simp [*, errW_none, errW_some] <;> rfl), by (with_reducible repeat (first | apply Kd.R_alloc | apply Kd.R_drewN | apply Kd.R_drew)); exact Kd.R_mono (Kd.R_far (p := ⟨gb215, 2, none⟩) (Kd.R_far (p := ⟨gb215, 1, none⟩) (Kd.R_far (p := ⟨gb215, 0, none⟩) (Kd.R_types HO_227000.out BK215.out (by decide)) (fun _ hk => hk.2) (.slice Ao141 x227000_5.length co141)) (fun _ hk => hk.2) (.int .i64 (wrap64 (Int.tdiv t222 t244)))) (fun _ hk => hk.2) (.bool true)) (fun _ hk => trivial), zo HB⟩
          ·replace c41 := Bool.eq_false_iff.mpr c41
           subst c41
           have H1 : (some (([] : List Int), 0, false)) = some (r1, r2, r3) := by rw [if_neg (show ¬ (false = true) by decide)] at H; exact H
           clear H; have H := H1; clear H1
           simp only [Option.some.injEq, Prod.mk.injEq] at H
           obtain ⟨rfl, rfl, rfl⟩ := H
           have hnb145 := NB214_213.out
           have hnc145 := NB213_214.out
           have hnb146 := NB214_215.out
           have hnc146 := NB215_214.out
           have hcz147_0 := zc0 BK214
           have hcz147_1 := zc1 BK214
           have hcz147_2 := zc2 BK214
           have hfz147_0 := zfz BK214 0
           have hfz147_1 := zfz BK214 1
           have hfz147_2 := zfz BK214 2
           go_wp2_with (first | (go_at_call 64; (with_reducible refine (num_Mul.calls x3_21 a1_1 t220 true _ A34.out).mono ?_); rintro e w' ⟨rfl, ⟨nd, rfl⟩⟩; (try first | exact ⟨rfl, _, World.drewN_drewN _ _ _⟩ | exact ⟨rfl, _, Eq.trans (World.drewN_drewN _ _ _) (congrArg (World.drewN _) (Nat.add_assoc _ _ _))⟩); have hnb148 := NB213_215.out; have hnc148 := NB215_213.out; have hcz149_0 := zc0 BK213; have hcz149_1 := zc1 BK213; have hcz149_2 := zc2 BK213; have hfz149_0 := zfz BK213 0; have hfz149_1 := zfz BK213 1; have hfz149_2 := zfz BK213 2) | (go_at_call 72; (with_reducible refine (num_Lcm.calls kj21 a0_1 t220 t222 true _ A36.out).mono ?_); rintro e w150 ⟨rfl, hb⟩; replace BK213 := zbb BK213 hb; replace BK214 := zbb BK214 hb; replace BK215 := zbb BK215 hb; replace HB := zst HB hb; (try clear hb); (try clear hb2); (try clear hk); (try clear hi); have hcz151_0 := zc0 BK213; have hcz151_1 := zc1 BK213; have hcz151_2 := zc2 BK213; have hfz151_0 := zfz BK213 0; have hfz151_1 := zfz BK213 1; have hfz151_2 := zfz BK213 2) | (go_at_call 64; (with_reducible refine (num_Mul.calls x2_21 (wrap64 (Int.tdiv t222 t220)) t224 false _ A40.out).mono ?_); rintro e w' ⟨rfl, ⟨nd, rfl⟩⟩; (try first | exact ⟨rfl, _, World.drewN_drewN _ _ _⟩ | exact ⟨rfl, _, Eq.trans (World.drewN_drewN _ _ _) (congrArg (World.drewN _) (Nat.add_assoc _ _ _))⟩); have hcz152_0 := zc0 BK215; have hcz152_1 := zc1 BK215; have hcz152_2 := zc2 BK215; have hfz152_0 := zfz BK215 0; have hfz152_1 := zfz BK215 1; have hfz152_2 := zfz BK215 2))
           repeat (go_quiet (first | (go_at_call 64; (with_reducible refine (num_Mul.calls x3_21 a1_1 t220 true _ A34.out).mono ?_); rintro e w' ⟨rfl, ⟨nd, rfl⟩⟩; (try first | exact ⟨rfl, _, World.drewN_drewN _ _ _⟩ | exact ⟨rfl, _, Eq.trans (World.drewN_drewN _ _ _) (congrArg (World.drewN _) (Nat.add_assoc _ _ _))⟩); have hnb148 := NB213_215.out; have hnc148 := NB215_213.out; have hcz149_0 := zc0 BK213; have hcz149_1 := zc1 BK213; have hcz149_2 := zc2 BK213; have hfz149_0 := zfz BK213 0; have hfz149_1 := zfz BK213 1; have hfz149_2 := zfz BK213 2) | (go_at_call 72; (with_reducible refine (num_Lcm.calls kj21 a0_1 t220 t222 true _ A36.out).mono ?_); rintro e w150 ⟨rfl, hb⟩; replace BK213 := zbb BK213 hb; replace BK214 := zbb BK214 hb; replace BK215 := zbb BK215 hb; replace HB := zst HB hb; (try clear hb); (try clear hb2); (try clear hk); (try clear hi); have hcz151_0 := zc0 BK213; have hcz151_1 := zc1 BK213; have hcz151_2 := zc2 BK213; have hfz151_0 := zfz BK213 0; have hfz151_1 := zfz BK213 1; have hfz151_2 := zfz BK213 2) | (go_at_call 64; (with_reducible refine (num_Mul.calls x2_21 (wrap64 (Int.tdiv t222 t220)) t224 false _ A40.out).mono ?_); rintro e w' ⟨rfl, ⟨nd, rfl⟩⟩; (try first | exact ⟨rfl, _, World.drewN_drewN _ _ _⟩ | exact ⟨rfl, _, Eq.trans (World.drewN_drewN _ _ _) (congrArg (World.drewN _) (Nat.add_assoc _ _ _))⟩); have hcz152_0 := zc0 BK215; have hcz152_1 := zc1 BK215; have hcz152_2 := zc2 BK215; have hfz152_0 := zfz BK215 0; have hfz152_1 := zfz BK215 1; have hfz152_2 := zfz BK215 2)); try go_wp2_with (first | (go_at_call 64; (with_reducible refine (num_Mul.calls x3_21 a1_1 t220 true _ A34.out).mono ?_); rintro e w' ⟨rfl, ⟨nd, rfl⟩⟩; (try first | exact ⟨rfl, _, World.drewN_drewN _ _ _⟩ | exact ⟨rfl, _, Eq.trans (World.drewN_drewN _ _ _) (congrArg (World.drewN _) (Nat.add_assoc _ _ _))⟩); have hnb148 := NB213_215.out; have hnc148 := NB215_213.out; have hcz149_0 := zc0 BK213; have hcz149_1 := zc1 BK213; have hcz149_2 := zc2 BK213; have hfz149_0 := zfz BK213 0; have hfz149_1 := zfz BK213 1; have hfz149_2 := zfz BK213 2) | (go_at_call 72; (with_reducible refine (num_Lcm.calls kj21 a0_1 t220 t222 true _ A36.out).mono ?_); rintro e w150 ⟨rfl, hb⟩; replace BK213 := zbb BK213 hb; replace BK214 := zbb BK214 hb; replace BK215 := zbb BK215 hb; replace HB := zst HB hb; (try clear hb); (try clear hb2); (try clear hk); (try clear hi); have hcz151_0 := zc0 BK213; have hcz151_1 := zc1 BK213; have hcz151_2 := zc2 BK213; have hfz151_0 := zfz BK213 0; have hfz151_1 := zfz BK213 1; have hfz151_2 := zfz BK213 2) | (go_at_call 64; (with_reducible refine (num_Mul.calls x2_21 (wrap64 (Int.tdiv t222 t220)) t224 false _ A40.out).mono ?_); rintro e w' ⟨rfl, ⟨nd, rfl⟩⟩; (try first | exact ⟨rfl, _, World.drewN_drewN _ _ _⟩ | exact ⟨rfl, _, Eq.trans (World.drewN_drewN _ _ _) (congrArg (World.drewN _) (Nat.add_assoc _ _ _))⟩); have hcz152_0 := zc0 BK215; have hcz152_1 := zc1 BK215; have hcz152_2 := zc2 BK215; have hfz152_0 := zfz BK215 0; have hfz152_1 := zfz BK215 1; have hfz152_2 := zfz BK215 2)))
           refine bodyPost_ret (results_cell_row rfl _ _ gb215 88 #[.slice none 0 0, .int .i64 0, .bool false] (0, 0) _ rfl (by refine zM ?_; refine blk_put (cs := #[.slice none 0 0, .int .i64 0, .bool x216002_21]) ?_ 2 _ rfl; refine zM ?_; refine blk_put (cs := #[.slice none 0 0, .int .i64 x216001_21, .bool x216002_21]) ?_ 1 _ rfl; refine zM ?_; refine blk_put (cs := #[.slice none 0 0, .int .i64 x216001_21, .bool x216002_21]) ?_ 0 _ rfl; refine zM ?_; exact BK215.out) Try.underlying88 rfl (by kernel_rfl)) rfl ?_
           exact ⟨_, zR (h := zL (h := zo HB))⟩
       ·replace c37 := Bool.eq_false_iff.mpr c37
        subst c37
        have H1 : (some (([] : List Int), 0, false)) = some (r1, r2, r3) := by rw [if_neg (show ¬ (false = true) by decide)] at H; exact H
        clear H; have H := H1; clear H1
        simp only [Option.some.injEq, Prod.mk.injEq] at H
        obtain ⟨rfl, rfl, rfl⟩ := H
        have hnb153 := NB214_213.out
        have hnc153 := NB213_214.out
        have hnb154 := NB214_215.out
        have hnc154 := NB215_214.out
        have hcz155_0 := zc0 BK214
        have hcz155_1 := zc1 BK214
        have hcz155_2 := zc2 BK214
        have hfz155_0 := zfz BK214 0
        have hfz155_1 := zfz BK214 1
        have hfz155_2 := zfz BK214 2
        go_wp2_with (first | (go_at_call 64; (with_reducible refine (num_Mul.calls x3_21 a1_1 t220 true _ A34.out).mono ?_); rintro e w' ⟨rfl, ⟨nd, rfl⟩⟩; (try first | exact ⟨rfl, _, World.drewN_drewN _ _ _⟩ | exact ⟨rfl, _, Eq.trans (World.drewN_drewN _ _ _) (congrArg (World.drewN _) (Nat.add_assoc _ _ _))⟩); have hnb156 := NB213_215.out; have hnc156 := NB215_213.out; have hcz157_0 := zc0 BK213; have hcz157_1 := zc1 BK213; have hcz157_2 := zc2 BK213; have hfz157_0 := zfz BK213 0; have hfz157_1 := zfz BK213 1; have hfz157_2 := zfz BK213 2) | (go_at_call 72; (with_reducible refine (num_Lcm.calls kj21 a0_1 t220 t222 false _ A36.out).mono ?_); rintro e w158 ⟨rfl, hb⟩; replace BK213 := zbb BK213 hb; replace BK214 := zbb BK214 hb; replace BK215 := zbb BK215 hb; replace HB := zst HB hb; (try clear hb); (try clear hb2); (try clear hk); (try clear hi); have hcz159_0 := zc0 BK215; have hcz159_1 := zc1 BK215; have hcz159_2 := zc2 BK215; have hfz159_0 := zfz BK215 0; have hfz159_1 := zfz BK215 1; have hfz159_2 := zfz BK215 2))
        repeat (go_quiet (first | (go_at_call 64; (with_reducible refine (num_Mul.calls x3_21 a1_1 t220 true _ A34.out).mono ?_); rintro e w' ⟨rfl, ⟨nd, rfl⟩⟩; (try first | exact ⟨rfl, _, World.drewN_drewN _ _ _⟩ | exact ⟨rfl, _, Eq.trans (World.drewN_drewN _ _ _) (congrArg (World.drewN _) (Nat.add_assoc _ _ _))⟩); have hnb156 := NB213_215.out; have hnc156 := NB215_213.out; have hcz157_0 := zc0 BK213; have hcz157_1 := zc1 BK213; have hcz157_2 := zc2 BK213; have hfz157_0 := zfz BK213 0; have hfz157_1 := zfz BK213 1; have hfz157_2 := zfz BK213 2) | (go_at_call 72; (with_reducible refine (num_Lcm.calls kj21 a0_1 t220 t222 false _ A36.out).mono ?_); rintro e w158 ⟨rfl, hb⟩; replace BK213 := zbb BK213 hb; replace BK214 := zbb BK214 hb; replace BK215 := zbb BK215 hb; replace HB := zst HB hb; (try clear hb); (try clear hb2); (try clear hk); (try clear hi); have hcz159_0 := zc0 BK215; have hcz159_1 := zc1 BK215; have hcz159_2 := zc2 BK215; have hfz159_0 := zfz BK215 0; have hfz159_1 := zfz BK215 1; have hfz159_2 := zfz BK215 2)); try go_wp2_with (first | (go_at_call 64; (with_reducible refine (num_Mul.calls x3_21 a1_1 t220 true _ A34.out).mono ?_); rintro e w' ⟨rfl, ⟨nd, rfl⟩⟩; (try first | exact ⟨rfl, _, World.drewN_drewN _ _ _⟩ | exact ⟨rfl, _, Eq.trans (World.drewN_drewN _ _ _) (congrArg (World.drewN _) (Nat.add_assoc _ _ _))⟩); have hnb156 := NB213_215.out; have hnc156 := NB215_213.out; have hcz157_0 := zc0 BK213; have hcz157_1 := zc1 BK213; have hcz157_2 := zc2 BK213; have hfz157_0 := zfz BK213 0; have hfz157_1 := zfz BK213 1; have hfz157_2 := zfz BK213 2) | (go_at_call 72; (with_reducible refine (num_Lcm.calls kj21 a0_1 t220 t222 false _ A36.out).mono ?_); rintro e w158 ⟨rfl, hb⟩; replace BK213 := zbb BK213 hb; replace BK214 := zbb BK214 hb; replace BK215 := zbb BK215 hb; replace HB := zst HB hb; (try clear hb); (try clear hb2); (try clear hk); (try clear hi); have hcz159_0 := zc0 BK215; have hcz159_1 := zc1 BK215; have hcz159_2 := zc2 BK215; have hfz159_0 := zfz BK215 0; have hfz159_1 := zfz BK215 1; have hfz159_2 := zfz BK215 2)))
        refine bodyPost_ret (results_cell_row rfl _ _ gb215 88 #[.slice none 0 0, .int .i64 0, .bool false] (0, 0) _ rfl (by refine zM ?_; refine blk_put (cs := #[.slice none 0 0, .int .i64 0, .bool x216002_21]) ?_ 2 _ rfl; refine zM ?_; refine blk_put (cs := #[.slice none 0 0, .int .i64 x216001_21, .bool x216002_21]) ?_ 1 _ rfl; refine zM ?_; refine blk_put (cs := #[.slice none 0 0, .int .i64 x216001_21, .bool x216002_21]) ?_ 0 _ rfl; refine zM ?_; exact BK215.out) Try.underlying88 rfl (by kernel_rfl)) rfl ?_
        exact ⟨_, zR (h := zL (h := zo HB))⟩
      ·replace c35 := Bool.eq_false_iff.mpr c35
       subst c35
       have H1 : (some (([] : List Int), 0, false)) = some (r1, r2, r3) := by rw [if_neg (show ¬ (false = true) by decide)] at H; exact H
       clear H; have H := H1; clear H1
       simp only [Option.some.injEq, Prod.mk.injEq] at H
       obtain ⟨rfl, rfl, rfl⟩ := H
       have hnb160 := NB214_213.out
       have hnc160 := NB213_214.out
       have hnb161 := NB214_215.out
       have hnc161 := NB215_214.out
       have hcz162_0 := zc0 BK214
       have hcz162_1 := zc1 BK214
       have hcz162_2 := zc2 BK214
       have hfz162_0 := zfz BK214 0
       have hfz162_1 := zfz BK214 1
       have hfz162_2 := zfz BK214 2
       go_wp2_with (first | (go_at_call 64; (with_reducible refine (num_Mul.calls x3_21 a1_1 t220 false _ A34.out).mono ?_); rintro e w' ⟨rfl, ⟨nd, rfl⟩⟩; (try first | exact ⟨rfl, _, World.drewN_drewN _ _ _⟩ | exact ⟨rfl, _, Eq.trans (World.drewN_drewN _ _ _) (congrArg (World.drewN _) (Nat.add_assoc _ _ _))⟩); have hnb163 := NB215_213.out; have hnc163 := NB213_215.out; have hcz164_0 := zc0 BK215; have hcz164_1 := zc1 BK215; have hcz164_2 := zc2 BK215; have hfz164_0 := zfz BK215 0; have hfz164_1 := zfz BK215 1; have hfz164_2 := zfz BK215 2))
       repeat (go_quiet (first | (go_at_call 64; (with_reducible refine (num_Mul.calls x3_21 a1_1 t220 false _ A34.out).mono ?_); rintro e w' ⟨rfl, ⟨nd, rfl⟩⟩; (try first | exact ⟨rfl, _, World.drewN_drewN _ _ _⟩ | exact ⟨rfl, _, Eq.trans (World.drewN_drewN _ _ _) (congrArg (World.drewN _) (Nat.add_assoc _ _ _))⟩); have hnb163 := NB215_213.out; have hnc163 := NB213_215.out; have hcz164_0 := zc0 BK215; have hcz164_1 := zc1 BK215; have hcz164_2 := zc2 BK215; have hfz164_0 := zfz BK215 0; have hfz164_1 := zfz BK215 1; have hfz164_2 := zfz BK215 2)); try go_wp2_with (first | (go_at_call 64; (with_reducible refine (num_Mul.calls x3_21 a1_1 t220 false _ A34.out).mono ?_); rintro e w' ⟨rfl, ⟨nd, rfl⟩⟩; (try first | exact ⟨rfl, _, World.drewN_drewN _ _ _⟩ | exact ⟨rfl, _, Eq.trans (World.drewN_drewN _ _ _) (congrArg (World.drewN _) (Nat.add_assoc _ _ _))⟩); have hnb163 := NB215_213.out; have hnc163 := NB213_215.out; have hcz164_0 := zc0 BK215; have hcz164_1 := zc1 BK215; have hcz164_2 := zc2 BK215; have hfz164_0 := zfz BK215 0; have hfz164_1 := zfz BK215 1; have hfz164_2 := zfz BK215 2)))
       refine bodyPost_ret (results_cell_row rfl _ _ gb215 88 #[.slice none 0 0, .int .i64 0, .bool false] (0, 0) _ rfl (by refine zM ?_; refine blk_put (cs := #[.slice none 0 0, .int .i64 0, .bool x216002_21]) ?_ 2 _ rfl; refine zM ?_; refine blk_put (cs := #[.slice none 0 0, .int .i64 x216001_21, .bool x216002_21]) ?_ 1 _ rfl; refine zM ?_; refine blk_put (cs := #[.slice none 0 0, .int .i64 x216001_21, .bool x216002_21]) ?_ 0 _ rfl; refine zM ?_; exact BK215.out) Try.underlying88 rfl (by kernel_rfl)) rfl ?_
       exact ⟨_, zR (h := zL (h := zo HB))⟩

/-! ### euclid_far: function 62 -/
def euclid_far.f (a0 : Int) : Option (Int) := if a0 < 0 then (some (IntKind.u64.wrap (-(IntKind.u64.wrap (a0))))) else (some (IntKind.u64.wrap (a0)))
theorem euclid_far.calls (a0 : Int) (r : Int) (w : World) (h : euclid_far.f a0 = some r) :
  Calls Try.prog 62 #[.int .i64 a0] w fun e w' => e = .returned (.int .u64 r) ∧ Drawn0 w w' := by
 have H : (if a0 < 0 then (some (IntKind.u64.wrap (-(IntKind.u64.wrap (a0))))) else (some (IntKind.u64.wrap (a0)))) = some r := h
 clear h
 by_cases c2 : a0 < 0
 ·rw [if_pos c2] at H
  have c2b0 : decide (a0 < 0) = true := decide_eq_true c2; clear c2
  obtain rfl := Option.some.inj H
  go_enter Try.func62, Try.ntmps62
  go_wp2
  go_ret
  exact zW
 ·rw [if_neg c2] at H
  have c2b0 : decide (a0 < 0) = false := decide_eq_false c2; clear c2
  obtain rfl := Option.some.inj H
  go_enter Try.func62, Try.ntmps62
  go_wp2
  go_ret
  exact zW

end Go.Proofs.Ytjinmlpekecmbaa.PEuclidNone
