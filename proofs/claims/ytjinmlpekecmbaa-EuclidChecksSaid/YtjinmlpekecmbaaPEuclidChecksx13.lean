/- What the call of each function that the law reaches comes to, and the law out of its plain form; no condition but what stands in each theorem. -/
import Derived.Test.YtjinmlpekecmbaaPEuclidChecksx0
import Derived.Test.YtjinmlpekecmbaaPEuclidChecksx11
import Derived.Test.YtjinmlpekecmbaaPEuclidChecksx12
namespace Go.Proofs.Ytjinmlpekecmbaa.PEuclidChecks
open Go.RowKit Go.Proofs.YtjinmlpekecmbaaW.PrintWords Go.Proofs.YtjinmlpekecmbaaW.PrintLast Go.Proofs.YtjinmlpekecmbaaW.PrintMore
open Go.Proofs.YtjinmlpekecmbaaW.PrintWords renaming blk_drewN → zN, blk_drew → zD, blk_alloc → zA, below_alloc → yA, pw_below_drewN → yN, below_drew1 → yD, below_set → yS, gate_callee → zC
open Go.Proofs.YtjinmlpekecmbaaW.PrintWords.Kd renaming C_alloc → cA, C_drewN → cN, C_drew → cD
open Go.Proofs.YtjinmlpekecmbaaW.PrintWords.Aside0 renaming mk → zK
open Bool renaming true → T_, false → F_
open List renaming setIfInBounds_toArray → zt, set_cons_zero → zz, set_cons_succ → zs
attribute [local go_sem] max2_int min2_int max_two min_two max_three min_three max_four min_four
set_option linter.unusedVariables false
set_option linter.unusedSimpArgs false

/-! ### sequiturref28_Lin: function 27 -/
mutual
def sequiturref28_Lin.l0 : Nat → List (S41) → List Int → Int → Int → Int → Int → Option (Int × (List (S44)) × Int)
 | 0, _, _, _, _, _, _ => none
 | k + 1, x0, x1, x7, x367000, x367001, x367002 => if x7 < (x0.length : Int) then (if 0 ≤ x7 then (if x7 < (x1.length : Int) then ((sequiturref28_More.f k x367000 x367001 x367002 ((rd_T41 x0 x7).f0) (rd x1 x7)).bind fun bt369 => (sequiturref28_Lin.l0 k x0 x1 (wrap64 (x7 + 1)) bt369.1 bt369.2.1 bt369.2.2)) else (none)) else (none)) else ((sequiturref28_Fits.f x367000 x367001 x367002).bind fun bt372 => (sequiturref28_Lin.l1 k x0 x1 bt372.2 0 bt372.1 ([] : List (S44))))
def sequiturref28_Lin.l1 : Nat → List (S41) → List Int → Bool → Int → Int → List (S44) → Option (Int × (List (S44)) × Int)
 | 0, _, _, _, _, _, _ => none
 | k + 1, x0, x1, x9, x11, x375000, x375001 => if x11 < 64 then (sequiturref28_Lin.l2 k x0 x1 x9 x11 0 x375000 x375001 0 0 0) else (if x9 = true then (some (x375000, x375001, 0)) else (some (0, ([] : List (S44)), 5)))
def sequiturref28_Lin.l2 : Nat → List (S41) → List Int → Bool → Int → Int → Int → List (S44) → Int → Int → Int → Option (Int × (List (S44)) × Int)
 | 0, _, _, _, _, _, _, _, _, _, _ => none
 | k + 1, x0, x1, x9, x11, x13, x375000, x375001, x376000, x376001, x376002 => if x13 < (x0.length : Int) then (if 0 ≤ x13 then ((sequiturref28_By.f k ((rd_T41 x0 x13).f0) ((rd_T41 x0 x13).f1) x11).bind fun t377 => (if x13 < (x1.length : Int) then ((sequiturref28_More.f k x376000 x376001 x376002 t377 (rd x1 x13)).bind fun bt379 => (sequiturref28_Lin.l2 k x0 x1 x9 x11 (wrap64 (x13 + 1)) x375000 x375001 bt379.1 bt379.2.1 bt379.2.2)) else (none))) else (none)) else ((sequiturref28_Fits.f x376000 x376001 x376002).bind fun bt382 => (if x9 = true then (if bt382.1 = 0 then (sequiturref28_Lin.l1 k x0 x1 bt382.2 (wrap64 (x11 + 1)) x375000 x375001) else (if x375001.length < 8796093022208 then (sequiturref28_Lin.l1 k x0 x1 bt382.2 (wrap64 (x11 + 1)) x375000 (x375001 ++ [(⟨x11, bt382.1⟩ : S44)])) else (none))) else (if bt382.1 = 0 then (sequiturref28_Lin.l1 k x0 x1 false (wrap64 (x11 + 1)) x375000 x375001) else (if x375001.length < 8796093022208 then (sequiturref28_Lin.l1 k x0 x1 false (wrap64 (x11 + 1)) x375000 (x375001 ++ [(⟨x11, bt382.1⟩ : S44)])) else (none)))))
end
def sequiturref28_Lin.f (k : Nat) (l0 : List (S41)) (l1 : List Int) : Option (Int × (List (S44)) × Int) := sequiturref28_Lin.l0 k l0 l1 0 0 0 0
theorem sequiturref28_Lin.mono_l : ∀ k, (∀ y0 y1 y2 y3 y4 y5, LeO (sequiturref28_Lin.l0 k y0 y1 y2 y3 y4 y5) (sequiturref28_Lin.l0 (k + 1) y0 y1 y2 y3 y4 y5)) ∧ (∀ y0 y1 y2 y3 y4 y5, LeO (sequiturref28_Lin.l1 k y0 y1 y2 y3 y4 y5) (sequiturref28_Lin.l1 (k + 1) y0 y1 y2 y3 y4 y5)) ∧ (∀ y0 y1 y2 y3 y4 y5 y6 y7 y8 y9, LeO (sequiturref28_Lin.l2 k y0 y1 y2 y3 y4 y5 y6 y7 y8 y9) (sequiturref28_Lin.l2 (k + 1) y0 y1 y2 y3 y4 y5 y6 y7 y8 y9))
 | 0 => ⟨fun _ _ _ _ _ _ r h => by simp [sequiturref28_Lin.l0] at h, fun _ _ _ _ _ _ r h => by simp [sequiturref28_Lin.l1] at h, fun _ _ _ _ _ _ _ _ _ _ r h => by simp [sequiturref28_Lin.l2] at h⟩
 | k + 1 => by
  obtain ⟨ih0, ih1, ih2⟩ := sequiturref28_Lin.mono_l k
  refine ⟨?_, ?_, ?_⟩ <;> intros <;> first | unfold sequiturref28_Lin.l0 | unfold sequiturref28_Lin.l1 | unfold sequiturref28_Lin.l2
  all_goals repeat' first | (with_reducible first | exact ih0 .. | exact ih1 .. | exact ih2 .. | exact sequiturref28_By.mono .. | exact sequiturref28_More.mono .. | exact LeO.refl _ | exact LeO.none _ | refine LeO.ite ?_ ?_ | refine LeO.bind ?_ (fun _ => ?_)) | exact ih0 .. | exact ih1 .. | exact ih2 .. | exact sequiturref28_By.mono .. | exact sequiturref28_More.mono .. | exact LeO.none _ | refine LeO.ite ?_ ?_ | refine LeO.bind ?_ (fun _ => ?_)
theorem sequiturref28_Lin.mono : ∀ a0 a1 k, LeO (sequiturref28_Lin.f k a0 a1) (sequiturref28_Lin.f (k + 1) a0 a1) := by
 intro a0 a1 k
 obtain ⟨ih0, ih1, ih2⟩ := sequiturref28_Lin.mono_l k
 unfold sequiturref28_Lin.f
 repeat' first | (with_reducible first | exact ih0 .. | exact ih1 .. | exact ih2 .. | exact sequiturref28_By.mono .. | exact sequiturref28_More.mono .. | exact LeO.refl _ | exact LeO.none _ | refine LeO.ite ?_ ?_ | refine LeO.bind ?_ (fun _ => ?_)) | exact ih0 .. | exact ih1 .. | exact ih2 .. | exact sequiturref28_By.mono .. | exact sequiturref28_More.mono .. | exact LeO.none _ | refine LeO.ite ?_ ?_ | refine LeO.bind ?_ (fun _ => ?_)
def sequiturref28_Lin.T5 : Bool × List (List Nat × List Nat) := (true, [([], []), ([], []), ([], []), ([1, 2], [1, 2]), ([3], [3]), ([4], [4]), ([], []), ([], []), ([6, 7], [6, 7]), ([8], [8]), ([0, 5, 9], [0, 5, 9]), ([10, 10, 0, 1, 2, 3, 4, 5, 6, 7, 8, 9, 10], [10])])
def sequiturref28_Lin.B5 : List Nat := [0, 0, 0, 6, 14, 30, 0, 0, 192, 448, 1023, 2047]
theorem sequiturref28_Lin.tab5 : rtab .any (opsOf Try.f27 5) = sequiturref28_Lin.T5 := by kernel_rfl
theorem sequiturref28_Lin.bits5 : waitsOk sequiturref28_Lin.T5.2 sequiturref28_Lin.B5 = true := by kernel_rfl
def sequiturref28_Lin.T15 : Bool × List (List Nat × List Nat) := (true, [([], []), ([], []), ([], []), ([1, 2], [1, 2]), ([3], [3]), ([], []), ([4, 5], [4, 5]), ([], []), ([], []), ([7, 8], [7, 8]), ([9], [9]), ([0, 6, 10, 6], [0, 6, 10]), ([11, 11, 0, 1, 2, 3, 4, 5, 6, 7, 8, 9, 10, 11], [11])])
def sequiturref28_Lin.B15 : List Nat := [0, 0, 0, 6, 14, 0, 62, 0, 0, 384, 896, 2047, 4095]
theorem sequiturref28_Lin.tab15 : rtab .any (opsOf Try.f27 15) = sequiturref28_Lin.T15 := by kernel_rfl
theorem sequiturref28_Lin.bits15 : waitsOk sequiturref28_Lin.T15.2 sequiturref28_Lin.B15 = true := by kernel_rfl
set_option maxHeartbeats 8000000 in
set_option maxRecDepth 100000 in
theorem sequiturref28_Lin.calls (k : Nat) (A0 : Option Addr) (c0 : Nat) (l0 : List (S41)) (A1 : Option Addr) (c1 : Nat) (l1 : List Int) (r1 : Int) (r2 : List (S44)) (r3 : Int) (w : World) (hr0 : Kd.C k41 w A0 l0.length l0) (hc0 : l0.length ≤ c0) (hr1 : Kd.C (Kd.int .i64) w A1 l1.length l1) (hc1 : l1.length ≤ c1) (h : sequiturref28_Lin.f k l0 l1 = some (r1, r2, r3)) :
  Calls Try.prog 27 #[.slice A0 l0.length c0, .slice A1 l1.length c1] w fun e w' => ∃ v1_ : Value, e = .returned (.tuple #[.agg #[.int .i64 r1, v1_], .int .i64 r3]) ∧ Kd.R k44 44 w' w.heap.size (fun _ => True) v1_ r2 ∧ Below w.heap.size w w' := by
 have hu41 := Try.underlying41
 have hu80 := Try.underlying80
 have hu44 := Try.underlying44
 have HR0 := zK hr0
 have HC0 := zK hc0; clear hr0 hc0
 have HR1 := zK hr1
 have HC1 := zK hc1; clear hr1 hc1
 have HB := zK (Below.refl w.heap.size w)
 have H : (sequiturref28_Lin.l0 k l0 l1 0 0 0 0) = some (r1, r2, r3) := h
 clear h
 have H' := zK H; clear H
 go_enter Try.func27, Try.ntmps27
 go_wp2_with (first | ((with_reducible refine gate_dst (N := 4) rfl ?_); refine zBx HB (cs := #[.int .i64 0, .slice none 0 0]) (t := 41) ?_; clear HB; intro gb365 hg w3 BK365 GW365 hb HB; clear hb hg) | ((with_reducible refine gate_dst (N := 6) rfl ?_); refine zBx HB (cs := #[.int .i64 0, .int .u64 0, .int .u64 0]) (t := 80) ?_; clear HB; intro gb366 hg w4 BK366 GW366 hb HB; have NB365_366 := zn1 BK365 hg; have NB366_365 := zn2 BK365 hg; replace BK365 := zbb BK365 hb; clear hb hg; have hnb5 := NB366_365.out; have hnc5 := NB365_366.out; have hcz6_0 := zc0 BK366; have hcz6_1 := zc1 BK366; have hcz6_2 := zc2 BK366; have hfz6_0 := zfz BK366 0; have hfz6_1 := zfz BK366 1; have hfz6_2 := zfz BK366 2))
 go_loopg [7] k (fun kq v7 w' => ∃ (x7_1 : Int) (x367000_1 : Int) (x367001_1 : Int) (x367002_1 : Int), v7 = .int .i64 x7_1 ∧ Aside0 (sequiturref28_Lin.l0 kq l0 l1 x7_1 x367000_1 x367001_1 x367002_1 = some (r1, r2, r3)) ∧ Aside0 (kq ≤ k) ∧ Aside0 (w'.heap[gb365]? = some (.cells #[.int .i64 0, (.slice none 0 0)] 41 (0, 0))) ∧ Aside0 (w'.heap[gb366]? = some (.cells #[.int .i64 x367000_1, .int .u64 x367001_1, .int .u64 x367002_1] 80 (0, 0))) ∧ Aside0 (Below w.heap.size w w'))
 case atStart => exact ⟨(0), (0), (0), (0), (by first | rfl | (simp; done) | (simp [*]; done)), H', ⟨Nat.le_refl _⟩, ⟨zb BK365⟩, ⟨by refine zM ?_; refine blk_put (cs := #[.int .i64 0, .int .u64 0, .int .u64 0]) ?_ 2 _ rfl; refine zM ?_; refine blk_put (cs := #[.int .i64 0, .int .u64 0, .int .u64 0]) ?_ 1 _ rfl; refine zM ?_; refine blk_put (cs := #[.int .i64 0, .int .u64 0, .int .u64 0]) ?_ 0 _ rfl; refine zM ?_; exact BK366.out⟩, ⟨zo HB⟩⟩
 case round =>
  clear H'; try clear c1; try clear c2; try clear p2
  try clear c5; try clear hcz6_0; try clear hcz6_1; try clear hcz6_2
  try clear hfz6_0; try clear hfz6_1; try clear hfz6_2
  obtain ⟨x7_1, x367000_1, x367001_1, x367002_1, rfl, HA, HK1, BK365, BK366, HB⟩ := hrel
  cases gk with
  | zero => exact absurd HA.out (by simp [sequiturref28_Lin.l0])
  | succ k1 =>
   have H := HA.out; clear HA
   simp only [sequiturref28_Lin.l0] at H
   by_cases c7 : x7_1 < (l0.length : Int)
   ·rw [if_pos c7] at H
    have c7b0 : decide (x7_1 < (l0.length : Int)) = true := decide_eq_true c7
    clear c7
    by_cases c8 : 0 ≤ x7_1
    ·rw [if_pos c8] at H
     have c8b0 : decide (0 ≤ x7_1) = true := decide_eq_true c8; clear c8
     by_cases c9 : x7_1 < (l1.length : Int)
     ·rw [if_pos c9] at H
      have c9b0 : decide (x7_1 < (l1.length : Int)) = true := decide_eq_true c9
      clear c9; replace H := zob H
      obtain ⟨⟨t369, t370, t371⟩, A100, H⟩ := H
      replace H : (sequiturref28_Lin.l0 k1 l0 l1 (wrap64 (x7_1 + 1)) t369 t370 t371) = some (r1, r2, r3) := H
      have A10 := zK A100; clear A100
      have H' := zK H; clear H
      try go_wp2
      replace BK365 := zK (zD BK365.out)
      replace BK366 := zK (zD BK366.out)
      replace HB := zK (yD HB.out)
      have p367 : 0 ≤ (x7_1 : Int) := zdt
      have q367 : x7_1 < (l0.length : Int) := zdt
      obtain ⟨ad367, A367_1, c367_1, e367, hx367_0, hx367_1, hl367_1, hi367_1⟩ := at_T41 HR0.out x7_1 p367 q367
      have hw367_1 := hx367_1
      have hw367_0 := hx367_0
      cases e367
      replace hx367_0 := zcl HB hx367_0
      replace hx367_1 := zcl HB hx367_1
      have HR367_1 := zK hi367_1
      have HC367_1 := zK hl367_1; clear hi367_1 hl367_1
      replace p367 := eq_true p367
      replace q367 := eq_true q367
      have p368 : 0 ≤ (x7_1 : Int) := zdt
      have q368 : x7_1 < (l1.length : Int) := zdt
      obtain ⟨ad368, e368, hx368_0⟩ := Kd.at_int HR1.out x7_1 p368 q368
      have hw368_0 := hx368_0
      cases e368
      replace hx368_0 := zcl HB hx368_0
      replace p368 := eq_true p368
      replace q368 := eq_true q368
      refine start_ (n := 12) (S := fun w' => w'.cell? ⟨gb366, 0, none⟩ = some (.int .i64 x367000_1) ∧ w'.cell? ⟨gb366, 1, none⟩ = some (.int .u64 x367001_1) ∧ w'.cell? ⟨gb366, 2, none⟩ = some (.int .u64 x367002_1) ∧ w'.cell? (ad367.add ((x7_1).toNat * 2)) = some (.int .i64 ((rd_T41 l0 x7_1).f0)) ∧ w'.cell? ⟨(ad367.add ((x7_1).toNat * 2)).block, (ad367.add ((x7_1).toNat * 2)).off + 1, none⟩ = some (.slice A367_1 ((rd_T41 l0 x7_1).f1).length c367_1) ∧ w'.cell? (ad368.add (x7_1).toNat) = some (.int .i64 (rd l1 x7_1))) (ds := [11]) #[F_,F_,F_,F_,F_,F_,F_,F_,F_,F_,F_,F_] (by kernel_rfl) rfl rfl ⟨(blk_cell BK366.out 0).trans rfl, (blk_cell BK366.out 1).trans rfl, (blk_cell BK366.out 2).trans rfl, ((HB.out.cell (World.block_lt_of_cell? w _ hw367_0)).trans hw367_0), ((HB.out.cell (World.block_lt_of_cell? w _ hw367_1)).trans hw367_1), ((HB.out.cell (World.block_lt_of_cell? w _ hw368_0)).trans hw368_0)⟩ (fun hHeld => ?_); refine with_tabW sequiturref28_Lin.tab5 sequiturref28_Lin.bits5 (fun HT_ HW_ => ?_)
      generalize wr.drew = w11 at BK365 BK366 HB HR367_1 hx367_0 hx367_1 hx368_0 hHeld ⊢
      refine zPu 1 24 #[F_,T_,F_,F_,F_,F_,F_,F_,F_,F_,F_,F_] ?_
      refine zPu 2 25 #[F_,T_,T_,F_,F_,F_,F_,F_,F_,F_,F_,F_] ?_
      refine zPu 3 26 #[F_,T_,T_,T_,F_,F_,F_,F_,F_,F_,F_,F_] ?_
      refine zPu 4 27 #[F_,T_,T_,T_,T_,F_,F_,F_,F_,F_,F_,F_] ?_
      refine zPu 6 29 #[F_,T_,T_,T_,T_,F_,T_,F_,F_,F_,F_,F_] ?_
      refine zPu 7 30 #[F_,T_,T_,T_,T_,F_,T_,T_,F_,F_,F_,F_] ?_
      refine zPu 8 31 #[F_,T_,T_,T_,T_,F_,T_,T_,T_,F_,F_,F_] ?_
      refine zTk 0 23 #[T_,T_,T_,T_,T_,F_,T_,T_,T_,F_,F_,F_] ?_
      refine zTk 5 28 #[T_,T_,T_,T_,T_,T_,T_,T_,T_,F_,F_,F_] ?_
      refine zTk 9 32 #[T_,T_,T_,T_,T_,T_,T_,T_,T_,T_,F_,F_] ?_
      refine one_ (i := 10) (N := some 33) #[T_,T_,T_,T_,T_,T_,T_,T_,T_,T_,T_,F_] rfl rfl (one_of HT_.out (by kernel_rfl)) (by decide) (fun K hK => ?_)
      refine goes_ Try.func36 (by kernel_rfl) rfl #[.agg #[.int .i64 x367000_1, .int .u64 x367001_1, .int .u64 x367002_1], .int .i64 ((rd_T41 l0 x7_1).f0), .int .i64 (rd l1 x7_1)] (by rfl) rfl rfl (by (try simp only [List.map_toArray, List.map_cons, List.map_nil]); first | done | rfl | (simp only [List.length_drop, List.length_take]; rfl)) ?_
      with_reducible refine (sequiturref28_More.calls k1 x367000_1 x367001_1 x367002_1 ((rd_T41 l0 x7_1).f0) (rd l1 x7_1) t369 t370 t371 _ A10.out).mono ?_
      rintro e w12 ⟨rfl, hb⟩
      refine ⟨_, rfl, ?_⟩
      replace BK365 := zbb BK365 hb
      replace BK366 := zbb BK366 hb
      replace HB := zst HB hb
      (try clear hb); (try clear hb2); (try clear hk); (try clear hi)
      refine hK.out _ _ ⟨(blk_cell BK366.out 0).trans rfl, (blk_cell BK366.out 1).trans rfl, (blk_cell BK366.out 2).trans rfl, ((HB.out.cell (World.block_lt_of_cell? w _ hw367_0)).trans hw367_0), ((HB.out.cell (World.block_lt_of_cell? w _ hw367_1)).trans hw367_1), ((HB.out.cell (World.block_lt_of_cell? w _ hw368_0)).trans hw368_0)⟩ (fun hHeld => ?_)
      clear hK K
      refine zNm 33 ?_
      refine last_ (i := 11) (N := none) #[T_,T_,T_,T_,T_,T_,T_,T_,T_,T_,T_,T_] rfl rfl (one_of HT_.out (by kernel_rfl)) (by decide) (fun K hK => ?_)
      have hs13 := zc0 BK366
      have hfs13 := zfz BK366 0
      have hns13_0 := NB365_366.out
      have hms13_0 := NB366_365.out
      have hs14 := zc1 BK366
      have hfs14 := zfz BK366 1
      have hns14_0 := NB365_366.out
      have hms14_0 := NB366_365.out
      have hs15 := zc2 BK366
      have hfs15 := zfz BK366 2
      have hns15_0 := NB365_366.out
      have hms15_0 := NB366_365.out
      refine skip_ (w1 := ?_) (by rfl) rfl ?_ ?_
      rotate_left
      ·go_simp
       rfl
      refine hK.out _ _ ?_
      clear hK K
      refine done_ (done_of HT_.out (by kernel_rfl)) ?_
      try go_wp2
      go_roundg k1
      case measure => have := HK1.out; omega
      case rel => exact ⟨(wrap64 (x7_1 + 1)), (t369), (t370), (t371), (by first | rfl | (simp; done) | (simp [*]; done)), H', ⟨by have := HK1.out; omega⟩, ⟨zb BK365⟩, ⟨by refine zM ?_; refine blk_put (cs := #[.int .i64 t369, .int .u64 t370, .int .u64 x367002_1]) ?_ 2 _ rfl; refine zM ?_; refine blk_put (cs := #[.int .i64 t369, .int .u64 x367001_1, .int .u64 x367002_1]) ?_ 1 _ rfl; refine zM ?_; refine blk_put (cs := #[.int .i64 x367000_1, .int .u64 x367001_1, .int .u64 x367002_1]) ?_ 0 _ rfl; refine zM ?_; exact BK366.out⟩, ⟨zo HB⟩⟩
     ·rw [if_neg c9] at H
      exact absurd H (by simp)
    ·rw [if_neg c8] at H
     exact absurd H (by simp)
   ·rw [if_neg c7] at H
    have c7b0 : decide (x7_1 < (l0.length : Int)) = false := decide_eq_false c7
    clear c7; replace H := zob H
    obtain ⟨⟨t372, t373⟩, A160, H⟩ := H
    replace H : (sequiturref28_Lin.l1 k1 l0 l1 t373 0 t372 ([] : List (S44))) = some (r1, r2, r3) := H
    have A16 := zK A160; clear A160
    have H' := zK H; clear H
    have hnb17 := NB366_365.out
    have hnc17 := NB365_366.out
    have hcz18_0 := zc0 BK366
    have hcz18_1 := zc1 BK366
    have hcz18_2 := zc2 BK366
    have hfz18_0 := zfz BK366 0
    have hfz18_1 := zfz BK366 1
    have hfz18_2 := zfz BK366 2
    go_wp2_with (first | ((with_reducible refine zC (f := 37) rfl ?_); refine zGo (some 36) Try.func37 #[.agg #[.int .i64 x367000_1, .int .u64 x367001_1, .int .u64 x367002_1]] ?_; (with_reducible refine (sequiturref28_Fits.calls x367000_1 x367001_1 x367002_1 t372 t373 _ A16.out).mono ?_); rintro e w19 ⟨rfl, hb⟩; refine ⟨_, rfl, ?_⟩; replace BK365 := zbb BK365 hb; replace BK366 := zbb BK366 hb; replace HB := zst HB hb; clear hb) | ((with_reducible refine gate_dst (N := 10) rfl ?_); refine zBx HB (cs := #[.int .i64 0, .slice none 0 0]) (t := 41) ?_; clear HB; intro gb374 hg w20 BK374 GW374 hb HB; have NB365_374 := zn1 BK365 hg; have NB374_365 := zn2 BK365 hg; replace BK365 := zbb BK365 hb; have NB366_374 := zn1 BK366 hg; have NB374_366 := zn2 BK366 hg; replace BK366 := zbb BK366 hb; clear hb hg; have hnb21 := NB374_365.out; have hnc21 := NB365_374.out; have hnb22 := NB374_366.out; have hnc22 := NB366_374.out; have hcz23_0 := zc0 BK374; have hcz23_1 := zc1 BK374; have hfz23_0 := zfz BK374 0; have hfz23_1 := zfz BK374 1))
    go_loopg [9, 11] k1 (fun kq v9 v11 w' => ∃ (x9_2 : Bool) (x11_2 : Int) (x375001_2 : List (S44)) (u375001 : Value), v9 = .bool x9_2 ∧ v11 = .int .i64 x11_2 ∧ Aside0 (sequiturref28_Lin.l1 kq l0 l1 x9_2 x11_2 t372 x375001_2 = some (r1, r2, r3)) ∧ Aside0 (kq ≤ k1) ∧ Aside0 (Kd.R k44 44 w' w.heap.size (fun _ => True) u375001 x375001_2) ∧ Aside0 (w'.heap[gb365]? = some (.cells #[.int .i64 0, (.slice none 0 0)] 41 (0, 0))) ∧ Aside0 (w'.heap[gb366]? = some (.cells #[.int .i64 x367000_1, .int .u64 x367001_1, .int .u64 x367002_1] 80 (0, 0))) ∧ Aside0 (w'.heap[gb374]? = some (.cells #[.int .i64 t372, u375001] 41 (0, 0))) ∧ Aside0 (Below w.heap.size w w'))
    case atStart => exact ⟨(t373), (0), (([] : List (S44))), (.slice none 0 0), (by first | rfl | (simp; done) | (simp [*]; done)), (by first | rfl | (simp; done) | (simp [*]; done)), H', ⟨Nat.le_refl _⟩, ⟨by first | exact Kd.R_nil _ _ _ _ _ | exact Kd.N_nil _ _ _ _ _ | exact Kd.V_nil _ _ _ _ _ | exact Kd.Q_nil _ _ _ _ _ | exact Kd.S_nil _ _ _ _ _⟩, ⟨zb BK365⟩, ⟨zb BK366⟩, ⟨by refine zM ?_; refine blk_put (cs := #[.int .i64 t372, .slice none 0 0]) ?_ 1 _ rfl; refine zM ?_; refine blk_put (cs := #[.int .i64 0, .slice none 0 0]) ?_ 0 _ rfl; refine zM ?_; exact BK374.out⟩, ⟨zo HB⟩⟩
    case round =>
     clear H'; try clear c1; try clear c2; try clear p2
     try clear c3; try clear p3; try clear q3; try clear hx3
     try clear c5; try clear p6; try clear c7; try clear c7b0
     try clear c8; try clear c8b0; try clear c9; try clear c9b0
     try clear c17; try clear c21; try clear c22; try clear hcz18_0
     try clear hcz18_1; try clear hcz18_2; try clear hcz23_0; try clear hcz23_1
     try clear hcz6_0; try clear hcz6_1; try clear hcz6_2; try clear hfz18_0
     try clear hfz18_1; try clear hfz18_2; try clear hfz23_0; try clear hfz23_1
     try clear hfz6_0; try clear hfz6_1; try clear hfz6_2; try clear hx367_0
     try clear hx367_1; try clear hx368_0; try clear p2; try clear p367; try clear p368; try clear q367; try clear q368
     obtain ⟨x9_2, x11_2, x375001_2, u375001, rfl, rfl, HA, HK2, HO_375001, BK365, BK366, BK374, HB⟩ := hrel
     cases gk with
     | zero => exact absurd HA.out (by simp [sequiturref28_Lin.l1])
     | succ k2 =>
      have H := HA.out; clear HA
      simp only [sequiturref28_Lin.l1] at H
      by_cases c24 : x11_2 < 64
      ·rw [if_pos c24] at H
       have c24b0 : decide (x11_2 < 64) = true := decide_eq_true c24; clear c24
       have H' := zK H; clear H
       go_wp2_with (first | ((with_reducible refine gate_dst (N := 12) rfl ?_); refine zBox (cs := #[.int .i64 0, .int .u64 0, .int .u64 0]) (t := 80) ?_; intro gb375 hg w25 hbox hb; replace HO_375001 := zK (Kd.R_below (zr HO_375001) hb); have BK375 := zK (hbox); have GW375 := zK ((by rw [hg]; exact (below_size (zo HB)) : w.heap.size ≤ gb375)); replace HB := zst HB hb; have NB365_375 := zn1 BK365 hg; have NB375_365 := zn2 BK365 hg; replace BK365 := zbb BK365 hb; have NB366_375 := zn1 BK366 hg; have NB375_366 := zn2 BK366 hg; replace BK366 := zbb BK366 hb; have NB374_375 := zn1 BK374 hg; have NB375_374 := zn2 BK374 hg; replace BK374 := zbb BK374 hb; clear hb hbox hg; have hnb26 := NB375_365.out; have hnc26 := NB365_375.out; have hnb27 := NB375_366.out; have hnc27 := NB366_375.out; have hnb28 := NB375_374.out; have hnc28 := NB374_375.out; have hcz29_0 := zc0 BK375; have hcz29_1 := zc1 BK375; have hcz29_2 := zc2 BK375; have hfz29_0 := zfz BK375 0; have hfz29_1 := zfz BK375 1; have hfz29_2 := zfz BK375 2))
       go_loopg [13] k2 (fun kq v13 w' => ∃ (x13_3 : Int) (x376000_3 : Int) (x376001_3 : Int) (x376002_3 : Int), v13 = .int .i64 x13_3 ∧ Aside0 (sequiturref28_Lin.l2 kq l0 l1 x9_2 x11_2 x13_3 t372 x375001_2 x376000_3 x376001_3 x376002_3 = some (r1, r2, r3)) ∧ Aside0 (kq ≤ k2) ∧ Aside0 (Kd.R k44 44 w' w.heap.size (fun _ => True) u375001 x375001_2) ∧ Aside0 (w'.heap[gb365]? = some (.cells #[.int .i64 0, (.slice none 0 0)] 41 (0, 0))) ∧ Aside0 (w'.heap[gb366]? = some (.cells #[.int .i64 x367000_1, .int .u64 x367001_1, .int .u64 x367002_1] 80 (0, 0))) ∧ Aside0 (w'.heap[gb374]? = some (.cells #[.int .i64 t372, u375001] 41 (0, 0))) ∧ Aside0 (w'.heap[gb375]? = some (.cells #[.int .i64 x376000_3, .int .u64 x376001_3, .int .u64 x376002_3] 80 (0, 0))) ∧ Aside0 (Below w.heap.size w w'))
       case atStart => exact ⟨(0), (0), (0), (0), (by first | rfl | (simp; done) | (simp [*]; done)), H', ⟨Nat.le_refl _⟩, ⟨by (with_reducible repeat (first | apply Kd.R_alloc | apply Kd.R_drewN | apply Kd.R_drew)); exact Kd.R_mono (Kd.R_far (p := ⟨gb375, 2, none⟩) (Kd.R_far (p := ⟨gb375, 1, none⟩) (Kd.R_far (p := ⟨gb375, 0, none⟩) (Kd.R_types HO_375001.out BK375.out (by decide)) (fun _ hk => hk.2) (.int .i64 0)) (fun _ hk => hk.2) (.int .u64 0)) (fun _ hk => hk.2) (.int .u64 0)) (fun _ hk => trivial)⟩, ⟨zb BK365⟩, ⟨zb BK366⟩, ⟨zb BK374⟩, ⟨by refine zM ?_; refine blk_put (cs := #[.int .i64 0, .int .u64 0, .int .u64 0]) ?_ 2 _ rfl; refine zM ?_; refine blk_put (cs := #[.int .i64 0, .int .u64 0, .int .u64 0]) ?_ 1 _ rfl; refine zM ?_; refine blk_put (cs := #[.int .i64 0, .int .u64 0, .int .u64 0]) ?_ 0 _ rfl; refine zM ?_; exact BK375.out⟩, ⟨zo HB⟩⟩
       case round =>
        clear H'; try clear c1; try clear c2; try clear p2
        try clear c3; try clear p3; try clear q3; try clear hx3
        try clear c5; try clear p6; try clear c7; try clear c7b0
        try clear c8; try clear c8b0; try clear c9; try clear c9b0
        try clear c17; try clear c21; try clear c22; try clear c24
        try clear c24b0; try clear c26; try clear c27; try clear c28
        try clear hcz18_0; try clear hcz18_1; try clear hcz18_2; try clear hcz23_0
        try clear hcz23_1; try clear hcz29_0; try clear hcz29_1; try clear hcz29_2
        try clear hcz6_0; try clear hcz6_1; try clear hcz6_2; try clear hfz18_0
        try clear hfz18_1; try clear hfz18_2; try clear hfz23_0; try clear hfz23_1
        try clear hfz29_0; try clear hfz29_1; try clear hfz29_2; try clear hfz6_0
        try clear hfz6_1; try clear hfz6_2; try clear hx367_0; try clear hx367_1
        try clear hx368_0; try clear p2; try clear p3; try clear p367
        try clear p368; try clear p6; try clear q3; try clear q367; try clear q368
        obtain ⟨x13_3, x376000_3, x376001_3, x376002_3, rfl, HA, HK3, HO_375001, BK365, BK366, BK374, BK375, HB⟩ := hrel
        cases gk with
        | zero => exact absurd HA.out (by simp [sequiturref28_Lin.l2])
        | succ k3 =>
         have H := HA.out; clear HA
         simp only [sequiturref28_Lin.l2] at H
         by_cases c30 : x13_3 < (l0.length : Int)
         ·rw [if_pos c30] at H
          have c30b0 : decide (x13_3 < (l0.length : Int)) = true := decide_eq_true c30
          clear c30
          by_cases c31 : 0 ≤ x13_3
          ·rw [if_pos c31] at H
           have c31b0 : decide (0 ≤ x13_3) = true := decide_eq_true c31; clear c31
           replace H := zob H
           obtain ⟨t377, A320, H⟩ := H
           replace H : (if x13_3 < (l1.length : Int) then ((sequiturref28_More.f k3 x376000_3 x376001_3 x376002_3 t377 (rd l1 x13_3)).bind fun bt379 => (sequiturref28_Lin.l2 k3 l0 l1 x9_2 x11_2 (wrap64 (x13_3 + 1)) t372 x375001_2 bt379.1 bt379.2.1 bt379.2.2)) else (none)) = some (r1, r2, r3) := H
           have A32 := zK A320; clear A320
           by_cases c33 : x13_3 < (l1.length : Int)
           ·rw [if_pos c33] at H
            have c33b0 : decide (x13_3 < (l1.length : Int)) = true := decide_eq_true c33
            clear c33; replace H := zob H
            obtain ⟨⟨t379, t380, t381⟩, A340, H⟩ := H
            replace H : (sequiturref28_Lin.l2 k3 l0 l1 x9_2 x11_2 (wrap64 (x13_3 + 1)) t372 x375001_2 t379 t380 t381) = some (r1, r2, r3) := H
            have A34 := zK A340; clear A340
            have H' := zK H; clear H
            try go_wp2
            replace HO_375001 := zK (Kd.R_drew HO_375001.out)
            replace BK365 := zK (zD BK365.out)
            replace BK366 := zK (zD BK366.out)
            replace BK374 := zK (zD BK374.out)
            replace BK375 := zK (zD BK375.out)
            replace HB := zK (yD HB.out)
            have p376 : 0 ≤ (x13_3 : Int) := zdt
            have q376 : x13_3 < (l0.length : Int) := zdt
            obtain ⟨ad376, A376_1, c376_1, e376, hx376_0, hx376_1, hl376_1, hi376_1⟩ := at_T41 HR0.out x13_3 p376 q376
            have hw376_1 := hx376_1
            have hw376_0 := hx376_0
            cases e376
            replace hx376_0 := zcl HB hx376_0
            replace hx376_1 := zcl HB hx376_1
            have HR376_1 := zK hi376_1
            have HC376_1 := zK hl376_1; clear hi376_1 hl376_1
            replace p376 := eq_true p376
            replace q376 := eq_true q376
            have p378 : 0 ≤ (x13_3 : Int) := zdt
            have q378 : x13_3 < (l1.length : Int) := zdt
            obtain ⟨ad378, e378, hx378_0⟩ := Kd.at_int HR1.out x13_3 p378 q378
            have hw378_0 := hx378_0
            cases e378
            replace hx378_0 := zcl HB hx378_0
            replace p378 := eq_true p378
            replace q378 := eq_true q378
            refine start_ (n := 13) (S := fun w' => w'.cell? ⟨gb375, 0, none⟩ = some (.int .i64 x376000_3) ∧ w'.cell? ⟨gb375, 1, none⟩ = some (.int .u64 x376001_3) ∧ w'.cell? ⟨gb375, 2, none⟩ = some (.int .u64 x376002_3) ∧ w'.cell? (ad376.add ((x13_3).toNat * 2)) = some (.int .i64 ((rd_T41 l0 x13_3).f0)) ∧ w'.cell? ⟨(ad376.add ((x13_3).toNat * 2)).block, (ad376.add ((x13_3).toNat * 2)).off + 1, none⟩ = some (.slice A376_1 ((rd_T41 l0 x13_3).f1).length c376_1) ∧ w'.cell? (ad378.add (x13_3).toNat) = some (.int .i64 (rd l1 x13_3))) (ds := [12]) #[F_,F_,F_,F_,F_,F_,F_,F_,F_,F_,F_,F_,F_] (by kernel_rfl) rfl rfl ⟨(blk_cell BK375.out 0).trans rfl, (blk_cell BK375.out 1).trans rfl, (blk_cell BK375.out 2).trans rfl, ((HB.out.cell (World.block_lt_of_cell? w _ hw376_0)).trans hw376_0), ((HB.out.cell (World.block_lt_of_cell? w _ hw376_1)).trans hw376_1), ((HB.out.cell (World.block_lt_of_cell? w _ hw378_0)).trans hw378_0)⟩ (fun hHeld => ?_); refine with_tabW sequiturref28_Lin.tab15 sequiturref28_Lin.bits15 (fun HT_ HW_ => ?_)
            generalize wr.drew = w35 at HO_375001 BK365 BK366 BK374 BK375 HB HR376_1 hx376_0 hx376_1 hx378_0 hHeld ⊢
            refine zPu 1 53 #[F_,T_,F_,F_,F_,F_,F_,F_,F_,F_,F_,F_,F_] ?_
            refine zPu 2 54 #[F_,T_,T_,F_,F_,F_,F_,F_,F_,F_,F_,F_,F_] ?_
            refine zPu 3 55 #[F_,T_,T_,T_,F_,F_,F_,F_,F_,F_,F_,F_,F_] ?_
            refine zPu 5 57 #[F_,T_,T_,T_,F_,T_,F_,F_,F_,F_,F_,F_,F_] ?_
            refine zPu 7 59 #[F_,T_,T_,T_,F_,T_,F_,T_,F_,F_,F_,F_,F_] ?_
            refine zPu 8 60 #[F_,T_,T_,T_,F_,T_,F_,T_,T_,F_,F_,F_,F_] ?_
            refine zPu 9 61 #[F_,T_,T_,T_,F_,T_,F_,T_,T_,T_,F_,F_,F_] ?_
            refine zTk 0 52 #[T_,T_,T_,T_,F_,T_,F_,T_,T_,T_,F_,F_,F_] ?_
            refine zTk 4 56 #[T_,T_,T_,T_,T_,T_,F_,T_,T_,T_,F_,F_,F_] ?_
            refine zTk 10 62 #[T_,T_,T_,T_,T_,T_,F_,T_,T_,T_,T_,F_,F_] ?_
            refine one_ (i := 6) (N := some 58) #[T_,T_,T_,T_,T_,T_,T_,T_,T_,T_,T_,F_,F_] rfl rfl (one_of HT_.out (by kernel_rfl)) (by decide) (fun K hK => ?_)
            refine goes_ Try.func38 (by kernel_rfl) rfl #[.agg #[.int .i64 ((rd_T41 l0 x13_3).f0), .slice A376_1 ((rd_T41 l0 x13_3).f1).length c376_1], .int .i64 x11_2] (by rfl) rfl rfl (by (try simp only [List.map_toArray, List.map_cons, List.map_nil]); first | done | rfl | (simp only [List.length_drop, List.length_take]; rfl)) ?_
            with_reducible refine (sequiturref28_By.calls k3 ((rd_T41 l0 x13_3).f0) _ _ ((rd_T41 l0 x13_3).f1) x11_2 t377 _ ?side1 ?side2 A32.out).mono ?_
            (case side1 => repeat (first | exact (Kd.C_below HR376_1.out HB.out) | (with_reducible refine cA ?_ _) | (with_reducible refine cN ?_ _) | (with_reducible refine cD ?_)))
            (case side2 => exact HC376_1.out)
            rintro e w36 ⟨rfl, hb⟩
            refine ⟨_, rfl, ?_⟩
            replace HO_375001 := zK (Kd.R_below (zr HO_375001) hb)
            replace BK365 := zbb BK365 hb
            replace BK366 := zbb BK366 hb
            replace BK374 := zbb BK374 hb
            replace BK375 := zbb BK375 hb
            replace HB := zst HB hb
            (try clear hb); (try clear hb2); (try clear hk); (try clear hi)
            refine hK.out _ _ ⟨(blk_cell BK375.out 0).trans rfl, (blk_cell BK375.out 1).trans rfl, (blk_cell BK375.out 2).trans rfl, ((HB.out.cell (World.block_lt_of_cell? w _ hw376_0)).trans hw376_0), ((HB.out.cell (World.block_lt_of_cell? w _ hw376_1)).trans hw376_1), ((HB.out.cell (World.block_lt_of_cell? w _ hw378_0)).trans hw378_0)⟩ (fun hHeld => ?_)
            clear hK K
            refine zNm 58 ?_
            refine one_ (i := 11) (N := some 63) #[T_,T_,T_,T_,T_,T_,T_,T_,T_,T_,T_,T_,F_] rfl rfl (one_of HT_.out (by kernel_rfl)) (by decide) (fun K hK => ?_)
            refine goes_ Try.func36 (by kernel_rfl) rfl #[.agg #[.int .i64 x376000_3, .int .u64 x376001_3, .int .u64 x376002_3], .int .i64 t377, .int .i64 (rd l1 x13_3)] (by rfl) rfl rfl (by (try simp only [List.map_toArray, List.map_cons, List.map_nil]); first | done | rfl | (simp only [List.length_drop, List.length_take]; rfl)) ?_
            with_reducible refine (sequiturref28_More.calls k3 x376000_3 x376001_3 x376002_3 t377 (rd l1 x13_3) t379 t380 t381 _ A34.out).mono ?_
            rintro e w37 ⟨rfl, hb⟩
            refine ⟨_, rfl, ?_⟩
            replace HO_375001 := zK (Kd.R_below (zr HO_375001) hb)
            replace BK365 := zbb BK365 hb
            replace BK366 := zbb BK366 hb
            replace BK374 := zbb BK374 hb
            replace BK375 := zbb BK375 hb
            replace HB := zst HB hb
            (try clear hb); (try clear hb2); (try clear hk); (try clear hi)
            refine hK.out _ _ ⟨(blk_cell BK375.out 0).trans rfl, (blk_cell BK375.out 1).trans rfl, (blk_cell BK375.out 2).trans rfl, ((HB.out.cell (World.block_lt_of_cell? w _ hw376_0)).trans hw376_0), ((HB.out.cell (World.block_lt_of_cell? w _ hw376_1)).trans hw376_1), ((HB.out.cell (World.block_lt_of_cell? w _ hw378_0)).trans hw378_0)⟩ (fun hHeld => ?_)
            clear hK K
            refine zNm 63 ?_
            refine last_ (i := 12) (N := none) #[T_,T_,T_,T_,T_,T_,T_,T_,T_,T_,T_,T_,T_] rfl rfl (one_of HT_.out (by kernel_rfl)) (by decide) (fun K hK => ?_)
            have hs38 := zc0 BK375
            have hfs38 := zfz BK375 0
            have hns38_0 := NB365_375.out
            have hns38_1 := NB366_375.out
            have hns38_2 := NB374_375.out
            have hms38_0 := NB375_365.out
            have hms38_1 := NB375_366.out
            have hms38_2 := NB375_374.out
            have hs39 := zc1 BK375
            have hfs39 := zfz BK375 1
            have hns39_0 := NB365_375.out
            have hns39_1 := NB366_375.out
            have hns39_2 := NB374_375.out
            have hms39_0 := NB375_365.out
            have hms39_1 := NB375_366.out
            have hms39_2 := NB375_374.out
            have hs40 := zc2 BK375
            have hfs40 := zfz BK375 2
            have hns40_0 := NB365_375.out
            have hns40_1 := NB366_375.out
            have hns40_2 := NB374_375.out
            have hms40_0 := NB375_365.out
            have hms40_1 := NB375_366.out
            have hms40_2 := NB375_374.out
            refine skip_ (w1 := ?_) (by rfl) rfl ?_ ?_
            rotate_left
            ·go_simp
             rfl
            refine hK.out _ _ ?_
            clear hK K
            refine done_ (done_of HT_.out (by kernel_rfl)) ?_
            try go_wp2
            go_roundg k3
            case measure => have := HK1.out; have := HK2.out; have := HK3.out; omega
            case rel => exact ⟨(wrap64 (x13_3 + 1)), (t379), (t380), (t381), (by first | rfl | (simp; done) | (simp [*]; done)), H', ⟨by have := HK1.out; have := HK2.out; have := HK3.out; omega⟩, ⟨by (with_reducible repeat (first | apply Kd.R_alloc | apply Kd.R_drewN | apply Kd.R_drew)); exact Kd.R_mono (Kd.R_far (p := ⟨gb375, 2, none⟩) (Kd.R_far (p := ⟨gb375, 1, none⟩) (Kd.R_far (p := ⟨gb375, 0, none⟩) (Kd.R_types HO_375001.out BK375.out (by decide)) (fun _ hk => hk.2) (.int .i64 t379)) (fun _ hk => hk.2) (.int .u64 t380)) (fun _ hk => hk.2) (.int .u64 t381)) (fun _ hk => trivial)⟩, ⟨zb BK365⟩, ⟨zb BK366⟩, ⟨zb BK374⟩, ⟨by refine zM ?_; refine blk_put (cs := #[.int .i64 t379, .int .u64 t380, .int .u64 x376002_3]) ?_ 2 _ rfl; refine zM ?_; refine blk_put (cs := #[.int .i64 t379, .int .u64 x376001_3, .int .u64 x376002_3]) ?_ 1 _ rfl; refine zM ?_; refine blk_put (cs := #[.int .i64 x376000_3, .int .u64 x376001_3, .int .u64 x376002_3]) ?_ 0 _ rfl; refine zM ?_; exact BK375.out⟩, ⟨zo HB⟩⟩
           ·rw [if_neg c33] at H
            exact absurd H (by simp)
          ·rw [if_neg c31] at H
           exact absurd H (by simp)
         ·rw [if_neg c30] at H
          have c30b0 : decide (x13_3 < (l0.length : Int)) = false := decide_eq_false c30
          clear c30; replace H := zob H
          obtain ⟨⟨t382, t383⟩, A410, H⟩ := H
          replace H : (if x9_2 = true then (if t382 = 0 then (sequiturref28_Lin.l1 k3 l0 l1 t383 (wrap64 (x11_2 + 1)) t372 x375001_2) else (if x375001_2.length < 8796093022208 then (sequiturref28_Lin.l1 k3 l0 l1 t383 (wrap64 (x11_2 + 1)) t372 (x375001_2 ++ [(⟨x11_2, t382⟩ : S44)])) else (none))) else (if t382 = 0 then (sequiturref28_Lin.l1 k3 l0 l1 false (wrap64 (x11_2 + 1)) t372 x375001_2) else (if x375001_2.length < 8796093022208 then (sequiturref28_Lin.l1 k3 l0 l1 false (wrap64 (x11_2 + 1)) t372 (x375001_2 ++ [(⟨x11_2, t382⟩ : S44)])) else (none)))) = some (r1, r2, r3) := H
          have A41 := zK A410; clear A410
          by_cases c42 : x9_2 = true
          ·subst c42
           have H1 : (if t382 = 0 then (sequiturref28_Lin.l1 k3 l0 l1 t383 (wrap64 (x11_2 + 1)) t372 x375001_2) else (if x375001_2.length < 8796093022208 then (sequiturref28_Lin.l1 k3 l0 l1 t383 (wrap64 (x11_2 + 1)) t372 (x375001_2 ++ [(⟨x11_2, t382⟩ : S44)])) else (none))) = some (r1, r2, r3) := by rw [if_pos rfl] at H; exact H
           clear H; have H := H1; clear H1
           by_cases c43 : t382 = 0
           ·rw [if_pos c43] at H
            have c43b0 : (t382 == 0) = true := beq_iff_eq.mpr c43
            have c43b1 : (t382 != 0) = false := bne_eq_false_iff_eq.mpr c43; clear c43
            have H' := zK H; clear H
            have hnb44 := NB375_365.out
            have hnc44 := NB365_375.out
            have hnb45 := NB375_366.out
            have hnc45 := NB366_375.out
            have hnb46 := NB375_374.out
            have hnc46 := NB374_375.out
            have hcz47_0 := zc0 BK375
            have hcz47_1 := zc1 BK375
            have hcz47_2 := zc2 BK375
            have hfz47_0 := zfz BK375 0
            have hfz47_1 := zfz BK375 1
            have hfz47_2 := zfz BK375 2
            go_wp2_with (first | ((with_reducible refine zC (f := 37) rfl ?_); refine zGo (some 66) Try.func37 #[.agg #[.int .i64 x376000_3, .int .u64 x376001_3, .int .u64 x376002_3]] ?_; (with_reducible refine (sequiturref28_Fits.calls x376000_3 x376001_3 x376002_3 t382 t383 _ A41.out).mono ?_); rintro e w48 ⟨rfl, hb⟩; refine ⟨_, rfl, ?_⟩; replace HO_375001 := zK (Kd.R_below (zr HO_375001) hb); replace BK365 := zbb BK365 hb; replace BK366 := zbb BK366 hb; replace BK374 := zbb BK374 hb; replace BK375 := zbb BK375 hb; replace HB := zst HB hb; clear hb))
            go_roundg k3
            case measure => have := HK1.out; have := HK2.out; have := HK3.out; omega
            case rel => exact ⟨(t383), (wrap64 (x11_2 + 1)), (x375001_2), (u375001), (by first | rfl | (simp; done) | (simp [*]; done)), (by first | rfl | (simp; done) | (simp [*]; done)), H', ⟨by have := HK1.out; have := HK2.out; have := HK3.out; omega⟩, ⟨zr HO_375001⟩, ⟨zb BK365⟩, ⟨zb BK366⟩, ⟨zb BK374⟩, ⟨zo HB⟩⟩
           ·rw [if_neg c43] at H
            have c43b0 : (t382 == 0) = false := beq_eq_false_iff_ne.mpr c43
            have c43b1 : (t382 != 0) = true := bne_iff_ne.mpr c43
            by_cases c49 : x375001_2.length < 8796093022208
            ·rw [if_pos c49] at H
             have LMc49 := zK c49; clear c49
             obtain ⟨y384, hy384⟩ : ∃ y_ : List (S44), y_ = (x375001_2 ++ [(⟨x11_2, t382⟩ : S44)]) := ⟨_, rfl⟩
             replace H : (sequiturref28_Lin.l1 k3 l0 l1 t383 (wrap64 (x11_2 + 1)) t372 y384) = some (r1, r2, r3) := by first | (rw [hy384]; with_reducible exact H) | (have H2_ := (Option.bind_some _ _).symm.trans H; rw [hy384]; with_reducible exact H2_) | (have H2_ := (Option.bind_some _ _).symm.trans H; with_reducible exact H2_) | with_reducible exact H | (rw [hy384]; exact H) | exact H
             have Ny384 := zK hy384; clear hy384
             have H' := zK H; clear H
             have hnb50 := NB375_365.out
             have hnc50 := NB365_375.out
             have hnb51 := NB375_366.out
             have hnc51 := NB366_375.out
             have hnb52 := NB375_374.out
             have hnc52 := NB374_375.out
             have hcz53_0 := zc0 BK375
             have hcz53_1 := zc1 BK375
             have hcz53_2 := zc2 BK375
             have hfz53_0 := zfz BK375 0
             have hfz53_1 := zfz BK375 1
             have hfz53_2 := zfz BK375 2
             go_wp2_with (first | ((with_reducible refine zC (f := 37) rfl ?_); refine zGo (some 66) Try.func37 #[.agg #[.int .i64 x376000_3, .int .u64 x376001_3, .int .u64 x376002_3]] ?_; (with_reducible refine (sequiturref28_Fits.calls x376000_3 x376001_3 x376002_3 t382 t383 _ A41.out).mono ?_); rintro e w54 ⟨rfl, hb⟩; refine ⟨_, rfl, ?_⟩; replace HO_375001 := zK (Kd.R_below (zr HO_375001) hb); replace BK365 := zbb BK365 hb; replace BK366 := zbb BK366 hb; replace BK374 := zbb BK374 hb; replace BK375 := zbb BK375 hb; replace HB := zst HB hb; clear hb; have hnb55 := NB374_365.out; have hnc55 := NB365_374.out; have hnb56 := NB374_366.out; have hnc56 := NB366_374.out; have hcz57_0 := zc0 BK374; have hcz57_1 := zc1 BK374; have hfz57_0 := zfz BK374 0; have hfz57_1 := zfz BK374 1) | ((with_reducible refine gate_builtin (b := .append) (xs := #[.tmp 76, .tmp 80]) rfl ?_); at_builtin; refine Kd.R_append k44 (w0 := w) w.heap.size rfl (.tmp 76) (.tmp 80) 39 44 (.agg #[(.int .i64 0), (.int .i64 0)]) 16 rfl Try.underlying39 info44 rfl (by decide) (by omega) u375001 x375001_2 (⟨x11_2, t382⟩ : S44) [.int .i64 x11_2, .int .i64 t382] (fun _ => True) (fun _ => False) rfl rfl ?aP (fun _ hk => hk.elim) ?aF ?aO ?aB ?aS ?aL ?_; (case aP => exact k44_mkM _ _ _ (⟨x11_2, t382⟩ : S44)); (case aB => exact (zo HB)); (case aF => exact (fun _ _ => trivial)); (case aO => exact (zr HO_375001)); (case aS => exact (below_size (zo HB))); (case aL => have := LMc49.out; omega); intro v385 w58 ho hb hg hat; rw [← Ny384.out] at ho; replace BK365 := zK (blk_grown (g := gb365) (o := .cells #[.int .i64 0, .slice none 0 0] 41 (0, 0)) (zb BK365) hg (Kd.R_ne HO_375001.out BK365.out (by decide))); replace BK366 := zK (blk_grown (g := gb366) (o := .cells #[.int .i64 x367000_1, .int .u64 x367001_1, .int .u64 x367002_1] 80 (0, 0)) (zb BK366) hg (Kd.R_ne HO_375001.out BK366.out (by decide))); replace BK374 := zK (blk_grown (g := gb374) (o := .cells #[.int .i64 t372, u375001] 41 (0, 0)) (zb BK374) hg (Kd.R_ne HO_375001.out BK374.out (by decide))); replace BK375 := zK (blk_grown (g := gb375) (o := .cells #[.int .i64 x376000_3, .int .u64 x376001_3, .int .u64 x376002_3] 80 (0, 0)) (zb BK375) hg (Kd.R_ne HO_375001.out BK375.out (by decide))); replace HB := zK (hb); have HO386 := zK (ho); clear HO_375001 ho hb hg hat; obtain ⟨Ao59, co59, eo59⟩ := Kd.R_slice HO386.out; subst eo59; have hcz60_0 := zc0 BK374; have hcz60_1 := zc1 BK374; have hfz60_0 := zfz BK374 0; have hfz60_1 := zfz BK374 1))
             go_roundg k3
             case measure => have := HK1.out; have := HK2.out; have := HK3.out; omega
             case rel => exact ⟨(t383), (wrap64 (x11_2 + 1)), (y384), (.slice Ao59 y384.length co59), (by first | rfl | (simp; done) | (simp [*]; done)), (by first | rfl | (simp; done) | (simp [*]; done)), H', ⟨by have := HK1.out; have := HK2.out; have := HK3.out; omega⟩, ⟨by (with_reducible repeat (first | apply Kd.R_alloc | apply Kd.R_drewN | apply Kd.R_drew)); exact Kd.R_mono (Kd.R_far (p := ⟨gb374, 1, none⟩) (Kd.R_types HO386.out BK374.out (by decide)) (fun _ hk => hk.2) (.slice Ao59 y384.length co59)) (fun _ hk => trivial)⟩, ⟨zb BK365⟩, ⟨zb BK366⟩, ⟨by refine zM ?_; refine blk_put (cs := #[.int .i64 t372, u375001]) ?_ 1 _ rfl; refine zM ?_; exact BK374.out⟩, ⟨zo HB⟩⟩
            ·rw [if_neg c49] at H
             exact absurd H (by simp)
          ·replace c42 := Bool.eq_false_iff.mpr c42
           subst c42
           have H1 : (if t382 = 0 then (sequiturref28_Lin.l1 k3 l0 l1 false (wrap64 (x11_2 + 1)) t372 x375001_2) else (if x375001_2.length < 8796093022208 then (sequiturref28_Lin.l1 k3 l0 l1 false (wrap64 (x11_2 + 1)) t372 (x375001_2 ++ [(⟨x11_2, t382⟩ : S44)])) else (none))) = some (r1, r2, r3) := by rw [if_neg (show ¬ (false = true) by decide)] at H; exact H
           clear H; have H := H1; clear H1
           by_cases c61 : t382 = 0
           ·rw [if_pos c61] at H
            have c61b0 : (t382 == 0) = true := beq_iff_eq.mpr c61
            have c61b1 : (t382 != 0) = false := bne_eq_false_iff_eq.mpr c61; clear c61
            have H' := zK H; clear H
            have hnb62 := NB375_365.out
            have hnc62 := NB365_375.out
            have hnb63 := NB375_366.out
            have hnc63 := NB366_375.out
            have hnb64 := NB375_374.out
            have hnc64 := NB374_375.out
            have hcz65_0 := zc0 BK375
            have hcz65_1 := zc1 BK375
            have hcz65_2 := zc2 BK375
            have hfz65_0 := zfz BK375 0
            have hfz65_1 := zfz BK375 1
            have hfz65_2 := zfz BK375 2
            go_wp2_with (first | ((with_reducible refine zC (f := 37) rfl ?_); refine zGo (some 66) Try.func37 #[.agg #[.int .i64 x376000_3, .int .u64 x376001_3, .int .u64 x376002_3]] ?_; (with_reducible refine (sequiturref28_Fits.calls x376000_3 x376001_3 x376002_3 t382 t383 _ A41.out).mono ?_); rintro e w66 ⟨rfl, hb⟩; refine ⟨_, rfl, ?_⟩; replace HO_375001 := zK (Kd.R_below (zr HO_375001) hb); replace BK365 := zbb BK365 hb; replace BK366 := zbb BK366 hb; replace BK374 := zbb BK374 hb; replace BK375 := zbb BK375 hb; replace HB := zst HB hb; clear hb))
            go_roundg k3
            case measure => have := HK1.out; have := HK2.out; have := HK3.out; omega
            case rel => exact ⟨(false), (wrap64 (x11_2 + 1)), (x375001_2), (u375001), (by first | rfl | (simp; done) | (simp [*]; done)), (by first | rfl | (simp; done) | (simp [*]; done)), H', ⟨by have := HK1.out; have := HK2.out; have := HK3.out; omega⟩, ⟨zr HO_375001⟩, ⟨zb BK365⟩, ⟨zb BK366⟩, ⟨zb BK374⟩, ⟨zo HB⟩⟩
           ·rw [if_neg c61] at H
            have c61b0 : (t382 == 0) = false := beq_eq_false_iff_ne.mpr c61
            have c61b1 : (t382 != 0) = true := bne_iff_ne.mpr c61
            by_cases c67 : x375001_2.length < 8796093022208
            ·rw [if_pos c67] at H
             have LMc67 := zK c67; clear c67
             obtain ⟨y387, hy387⟩ : ∃ y_ : List (S44), y_ = (x375001_2 ++ [(⟨x11_2, t382⟩ : S44)]) := ⟨_, rfl⟩
             replace H : (sequiturref28_Lin.l1 k3 l0 l1 false (wrap64 (x11_2 + 1)) t372 y387) = some (r1, r2, r3) := by first | (rw [hy387]; with_reducible exact H) | (have H2_ := (Option.bind_some _ _).symm.trans H; rw [hy387]; with_reducible exact H2_) | (have H2_ := (Option.bind_some _ _).symm.trans H; with_reducible exact H2_) | with_reducible exact H | (rw [hy387]; exact H) | exact H
             have Ny387 := zK hy387; clear hy387
             have H' := zK H; clear H
             have hnb68 := NB375_365.out
             have hnc68 := NB365_375.out
             have hnb69 := NB375_366.out
             have hnc69 := NB366_375.out
             have hnb70 := NB375_374.out
             have hnc70 := NB374_375.out
             have hcz71_0 := zc0 BK375
             have hcz71_1 := zc1 BK375
             have hcz71_2 := zc2 BK375
             have hfz71_0 := zfz BK375 0
             have hfz71_1 := zfz BK375 1
             have hfz71_2 := zfz BK375 2
             go_wp2_with (first | ((with_reducible refine zC (f := 37) rfl ?_); refine zGo (some 66) Try.func37 #[.agg #[.int .i64 x376000_3, .int .u64 x376001_3, .int .u64 x376002_3]] ?_; (with_reducible refine (sequiturref28_Fits.calls x376000_3 x376001_3 x376002_3 t382 t383 _ A41.out).mono ?_); rintro e w72 ⟨rfl, hb⟩; refine ⟨_, rfl, ?_⟩; replace HO_375001 := zK (Kd.R_below (zr HO_375001) hb); replace BK365 := zbb BK365 hb; replace BK366 := zbb BK366 hb; replace BK374 := zbb BK374 hb; replace BK375 := zbb BK375 hb; replace HB := zst HB hb; clear hb; have hnb73 := NB374_365.out; have hnc73 := NB365_374.out; have hnb74 := NB374_366.out; have hnc74 := NB366_374.out; have hcz75_0 := zc0 BK374; have hcz75_1 := zc1 BK374; have hfz75_0 := zfz BK374 0; have hfz75_1 := zfz BK374 1) | ((with_reducible refine gate_builtin (b := .append) (xs := #[.tmp 76, .tmp 80]) rfl ?_); at_builtin; refine Kd.R_append k44 (w0 := w) w.heap.size rfl (.tmp 76) (.tmp 80) 39 44 (.agg #[(.int .i64 0), (.int .i64 0)]) 16 rfl Try.underlying39 info44 rfl (by decide) (by omega) u375001 x375001_2 (⟨x11_2, t382⟩ : S44) [.int .i64 x11_2, .int .i64 t382] (fun _ => True) (fun _ => False) rfl rfl ?aP (fun _ hk => hk.elim) ?aF ?aO ?aB ?aS ?aL ?_; (case aP => exact k44_mkM _ _ _ (⟨x11_2, t382⟩ : S44)); (case aB => exact (zo HB)); (case aF => exact (fun _ _ => trivial)); (case aO => exact (zr HO_375001)); (case aS => exact (below_size (zo HB))); (case aL => have := LMc67.out; omega); intro v388 w76 ho hb hg hat; rw [← Ny387.out] at ho; replace BK365 := zK (blk_grown (g := gb365) (o := .cells #[.int .i64 0, .slice none 0 0] 41 (0, 0)) (zb BK365) hg (Kd.R_ne HO_375001.out BK365.out (by decide))); replace BK366 := zK (blk_grown (g := gb366) (o := .cells #[.int .i64 x367000_1, .int .u64 x367001_1, .int .u64 x367002_1] 80 (0, 0)) (zb BK366) hg (Kd.R_ne HO_375001.out BK366.out (by decide))); replace BK374 := zK (blk_grown (g := gb374) (o := .cells #[.int .i64 t372, u375001] 41 (0, 0)) (zb BK374) hg (Kd.R_ne HO_375001.out BK374.out (by decide))); replace BK375 := zK (blk_grown (g := gb375) (o := .cells #[.int .i64 x376000_3, .int .u64 x376001_3, .int .u64 x376002_3] 80 (0, 0)) (zb BK375) hg (Kd.R_ne HO_375001.out BK375.out (by decide))); replace HB := zK (hb); have HO389 := zK (ho); clear HO_375001 ho hb hg hat; obtain ⟨Ao77, co77, eo77⟩ := Kd.R_slice HO389.out; subst eo77; have hcz78_0 := zc0 BK374; have hcz78_1 := zc1 BK374; have hfz78_0 := zfz BK374 0; have hfz78_1 := zfz BK374 1))
             go_roundg k3
             case measure => have := HK1.out; have := HK2.out; have := HK3.out; omega
             case rel => exact ⟨(false), (wrap64 (x11_2 + 1)), (y387), (.slice Ao77 y387.length co77), (by first | rfl | (simp; done) | (simp [*]; done)), (by first | rfl | (simp; done) | (simp [*]; done)), H', ⟨by have := HK1.out; have := HK2.out; have := HK3.out; omega⟩, ⟨by (with_reducible repeat (first | apply Kd.R_alloc | apply Kd.R_drewN | apply Kd.R_drew)); exact Kd.R_mono (Kd.R_far (p := ⟨gb374, 1, none⟩) (Kd.R_types HO389.out BK374.out (by decide)) (fun _ hk => hk.2) (.slice Ao77 y387.length co77)) (fun _ hk => trivial)⟩, ⟨zb BK365⟩, ⟨zb BK366⟩, ⟨by refine zM ?_; refine blk_put (cs := #[.int .i64 t372, u375001]) ?_ 1 _ rfl; refine zM ?_; exact BK374.out⟩, ⟨zo HB⟩⟩
            ·rw [if_neg c67] at H
             exact absurd H (by simp)
      ·rw [if_neg c24] at H
       have c24b0 : decide (x11_2 < 64) = false := decide_eq_false c24; clear c24
       by_cases c79 : x9_2 = true
       ·subst c79
        have H1 : (some (t372, x375001_2, 0)) = some (r1, r2, r3) := by rw [if_pos rfl] at H; exact H
        clear H; have H := H1; clear H1
        simp only [Option.some.injEq, Prod.mk.injEq] at H
        obtain ⟨rfl, rfl, rfl⟩ := H
        have hnb80 := NB374_365.out
        have hnc80 := NB365_374.out
        have hnb81 := NB374_366.out
        have hnc81 := NB366_374.out
        have hcz82_0 := zc0 BK374
        have hcz82_1 := zc1 BK374
        have hfz82_0 := zfz BK374 0
        have hfz82_1 := zfz BK374 1
        have hnb83 := NB365_366.out
        have hnc83 := NB366_365.out
        have hcz84_0 := zc0 BK365
        have hcz84_1 := zc1 BK365
        have hfz84_0 := zfz BK365 0
        have hfz84_1 := zfz BK365 1
        obtain ⟨Ao85, co85, eo85⟩ := Kd.R_slice HO_375001.out
        subst eo85
        go_wp2
        refine bodyPost_ret (results_ct rfl _ _ gb365 41 #[.int .i64 t372, .slice Ao85 x375001_2.length co85] (0, 0) _ rfl (by refine zM ?_; refine blk_put (cs := #[.int .i64 t372, .slice none 0 0]) ?_ 1 _ rfl; refine zM ?_; refine blk_put (cs := #[.int .i64 0, .slice none 0 0]) ?_ 0 _ rfl; refine zM ?_; exact BK365.out) Try.underlying41 rfl (by kernel_rfl)) rfl ?_
        exact ⟨_, by first | rfl | (simp [errW_none, errW_some] <;> rfl) | (simp [*, errW_none, errW_some] <;> rfl), by (with_reducible repeat (first | apply Kd.R_alloc | apply Kd.R_drewN | apply Kd.R_drew)); exact Kd.R_mono (Kd.R_far (p := ⟨gb365, 1, none⟩) (Kd.R_far (p := ⟨gb365, 0, none⟩) (Kd.R_types HO_375001.out BK365.out (by decide)) (fun _ hk => hk.2) (.int .i64 t372)) (fun _ hk => hk.2) (.slice Ao85 x375001_2.length co85)) (fun _ hk => trivial), zo HB⟩
       ·replace c79 := Bool.eq_false_iff.mpr c79
        subst c79
        have H1 : (some (0, ([] : List (S44)), 5)) = some (r1, r2, r3) := by rw [if_neg (show ¬ (false = true) by decide)] at H; exact H
        clear H; have H := H1; clear H1
        simp only [Option.some.injEq, Prod.mk.injEq] at H
        obtain ⟨rfl, rfl, rfl⟩ := H
        have hnb86 := NB365_366.out
        have hnc86 := NB366_365.out
        have hnb87 := NB365_374.out
        have hnc87 := NB374_365.out
        have hcz88_0 := zc0 BK365
        have hcz88_1 := zc1 BK365
        have hfz88_0 := zfz BK365 0
        have hfz88_1 := zfz BK365 1
        go_wp2
        refine bodyPost_ret (results_ct rfl _ _ gb365 41 #[.int .i64 0, .slice none 0 0] (0, 0) _ rfl (by refine zM ?_; refine blk_put (cs := #[.int .i64 0, .slice none 0 0]) ?_ 1 _ rfl; refine zM ?_; refine blk_put (cs := #[.int .i64 0, .slice none 0 0]) ?_ 0 _ rfl; refine zM ?_; exact BK365.out) Try.underlying41 rfl (by kernel_rfl)) rfl ?_
        exact ⟨_, zR (h := zL (h := zo HB))⟩

end Go.Proofs.Ytjinmlpekecmbaa.PEuclidChecks
