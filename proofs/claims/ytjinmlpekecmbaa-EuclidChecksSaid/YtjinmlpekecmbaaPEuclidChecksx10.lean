/- What the call of each function that the law reaches comes to, and the law out of its plain form; no condition but what stands in each theorem. -/
import Derived.Test.YtjinmlpekecmbaaPEuclidChecksx0
import Derived.Test.YtjinmlpekecmbaaPEuclidChecksx9
namespace Go.Proofs.Ytjinmlpekecmbaa.PEuclidChecks
open Go.RowKit Go.Proofs.YtjinmlpekecmbaaW.PrintWords Go.Proofs.YtjinmlpekecmbaaW.PrintLast Go.Proofs.YtjinmlpekecmbaaW.PrintMore
open Go.Proofs.YtjinmlpekecmbaaW.PrintWords renaming blk_drewN → zN, blk_drew → zD, blk_alloc → zA, below_alloc → yA, pw_below_drewN → yN, below_drew1 → yD, below_set → yS, gate_callee → zC
open Go.Proofs.YtjinmlpekecmbaaW.PrintWords.Aside0 renaming mk → zK
attribute [local go_sem] max2_int min2_int max_two min_two max_three min_three max_four min_four
set_option linter.unusedVariables false
set_option linter.unusedSimpArgs false

/-! ### sequiturref01_Times: function 52 -/
mutual
def sequiturref01_Times.j0 : Nat → Int → Int → Int → Option (Int × Int)
 | 0, _, _, _ => none
 | k + 1, x1, x332000, x332001 => (sequiturref01_Far.f x1).bind fun t335 => (sequiturref01_Times.l0 k t335 x332000 x332001 0 0)
def sequiturref01_Times.l0 : Nat → Int → Int → Int → Int → Int → Option (Int × Int)
 | 0, _, _, _, _, _ => none
 | k + 1, x7, x332000, x332001, x335000, x335001 => if x7 > 0 then (if (Int.tmod x7 2) = 1 then ((sequiturref01_Plus.f x335000 x335001 x332000 x332001).bind fun bt336 => ((sequiturref01_Plus.f x332000 x332001 x332000 x332001).bind fun bt338 => (sequiturref01_Times.l0 k (IntKind.u64.wrap (Int.tdiv x7 2)) bt338.1 bt338.2 bt336.1 bt336.2))) else ((sequiturref01_Plus.f x332000 x332001 x332000 x332001).bind fun bt340 => (sequiturref01_Times.l0 k (IntKind.u64.wrap (Int.tdiv x7 2)) bt340.1 bt340.2 x335000 x335001))) else (some (x335000, x335001))
end
def sequiturref01_Times.f (k : Nat) (a0 : Int) (a1 : Int) : Option (Int × Int) := (sequiturref01_Of.f a0).bind fun bt329 => (if a1 < 0 then ((sequiturref01_Minus.f bt329.1 bt329.2).bind fun bt332 => (sequiturref01_Times.j0 k a1 bt332.1 bt332.2)) else (sequiturref01_Times.j0 k a1 bt329.1 bt329.2))
theorem sequiturref01_Times.mono_l : ∀ k, (∀ y0 y1 y2, LeO (sequiturref01_Times.j0 k y0 y1 y2) (sequiturref01_Times.j0 (k + 1) y0 y1 y2)) ∧ (∀ y0 y1 y2 y3 y4, LeO (sequiturref01_Times.l0 k y0 y1 y2 y3 y4) (sequiturref01_Times.l0 (k + 1) y0 y1 y2 y3 y4))
 | 0 => ⟨fun _ _ _ r h => by simp [sequiturref01_Times.j0] at h, fun _ _ _ _ _ r h => by simp [sequiturref01_Times.l0] at h⟩
 | k + 1 => by
  obtain ⟨ih0, ih1⟩ := sequiturref01_Times.mono_l k
  refine ⟨?_, ?_⟩ <;> intros <;> first | unfold sequiturref01_Times.j0 | unfold sequiturref01_Times.l0
  all_goals repeat' first | (with_reducible first | exact ih0 .. | exact ih1 .. | exact LeO.refl _ | exact LeO.none _ | refine LeO.ite ?_ ?_ | refine LeO.bind ?_ (fun _ => ?_)) | exact ih0 .. | exact ih1 .. | exact LeO.none _ | refine LeO.ite ?_ ?_ | refine LeO.bind ?_ (fun _ => ?_)
theorem sequiturref01_Times.mono : ∀ a0 a1 k, LeO (sequiturref01_Times.f k a0 a1) (sequiturref01_Times.f (k + 1) a0 a1) := by
 intro a0 a1 k
 obtain ⟨ih0, ih1⟩ := sequiturref01_Times.mono_l k
 unfold sequiturref01_Times.f
 repeat' first | (with_reducible first | exact ih0 .. | exact ih1 .. | exact LeO.refl _ | exact LeO.none _ | refine LeO.ite ?_ ?_ | refine LeO.bind ?_ (fun _ => ?_)) | exact ih0 .. | exact ih1 .. | exact LeO.none _ | refine LeO.ite ?_ ?_ | refine LeO.bind ?_ (fun _ => ?_)
set_option maxHeartbeats 8000000 in
set_option maxRecDepth 100000 in
theorem sequiturref01_Times.calls (k : Nat) (a0 : Int) (a1 : Int) (r1 : Int) (r2 : Int) (w : World) (h : sequiturref01_Times.f k a0 a1 = some (r1, r2)) :
  Calls Try.prog 52 #[.int .i64 a0, .int .i64 a1] w fun e w' => e = .returned (.agg #[.int .i64 r1, .int .u64 r2]) ∧ Below w.heap.size w w' := by
 have hu78 := Try.underlying78
 have HB := zK (Below.refl w.heap.size w)
 have H : ((sequiturref01_Of.f a0).bind fun bt329 => (if a1 < 0 then ((sequiturref01_Minus.f bt329.1 bt329.2).bind fun bt332 => (sequiturref01_Times.j0 k a1 bt332.1 bt332.2)) else (sequiturref01_Times.j0 k a1 bt329.1 bt329.2))) = some (r1, r2) := h
 clear h; replace H := zob H
 obtain ⟨⟨t329, t330⟩, A30, H⟩ := H
 replace H : (if a1 < 0 then ((sequiturref01_Minus.f t329 t330).bind fun bt332 => (sequiturref01_Times.j0 k a1 bt332.1 bt332.2)) else (sequiturref01_Times.j0 k a1 t329 t330)) = some (r1, r2) := H
 have A3 := zK A30; clear A30
 have HC4 := zK H; clear H
 go_enter Try.func52, Try.ntmps52
 go_upto_if 11 with (first | ((with_reducible refine gate_dst (N := 4) rfl ?_); refine zBx HB (cs := #[.int .i64 0, .int .u64 0]) (t := 78) ?_; clear HB; intro gb328 hg w5 BK328 GW328 hb HB; clear hb hg) | ((with_reducible refine zC (f := 54) rfl ?_); refine zGo (some 9) Try.func54 #[.int .i64 a0] ?_; (with_reducible refine (sequiturref01_Of.calls a0 t329 t330 _ A3.out).mono ?_); rintro e w6 ⟨rfl, hb⟩; refine ⟨_, rfl, ?_⟩; replace BK328 := zbb BK328 hb; replace HB := zst HB hb; clear hb) | ((with_reducible refine gate_dst (N := 5) rfl ?_); refine zBx HB (cs := #[.int .i64 0, .int .u64 0]) (t := 78) ?_; clear HB; intro gb331 hg w7 BK331 GW331 hb HB; have NB328_331 := zn1 BK328 hg; have NB331_328 := zn2 BK328 hg; replace BK328 := zbb BK328 hb; clear hb hg; have hnb8 := NB331_328.out; have hnc8 := NB328_331.out; have hcz9_0 := zc0 BK331; have hcz9_1 := zc1 BK331; have hfz9_0 := zfz BK331 0; have hfz9_1 := zfz BK331 1))
 (try simp only [Act.put, List.setIfInBounds_toArray, List.set_cons_zero, List.set_cons_succ])
 go_cut [] (fun wc => ∃ (kq : Nat) (x332000_3 : Int) (x332001_3 : Int), Aside0 (sequiturref01_Times.j0 kq a1 x332000_3 x332001_3 = some (r1, r2)) ∧ Aside0 (kq ≤ k) ∧ Aside0 (wc.heap[gb328]? = some (.cells #[.int .i64 0, .int .u64 0] 78 (0, 0))) ∧ Aside0 (wc.heap[gb331]? = some (.cells #[.int .i64 x332000_3, .int .u64 x332001_3] 78 (0, 0))) ∧ Aside0 (Below w.heap.size w wc))
 case first =>
  have H := HC4.out; clear HC4
  by_cases c10 : a1 < 0
  ·rw [if_pos c10] at H
   have c10b0 : decide (a1 < 0) = true := decide_eq_true c10; clear c10
   (first | rw [c10b0] | (simp only [i64_w, i32_w]; rw [c10b0]) | skip)
   replace H := zob H
   obtain ⟨⟨t332, t333⟩, A110, H⟩ := H
   replace H : (sequiturref01_Times.j0 k a1 t332 t333) = some (r1, r2) := H
   have A11 := zK A110; clear A110
   have H' := zK H; clear H
   have hnb12 := NB331_328.out
   have hnc12 := NB328_331.out
   have hcz13_0 := zc0 BK331
   have hcz13_1 := zc1 BK331
   have hfz13_0 := zfz BK331 0
   have hfz13_1 := zfz BK331 1
   go_wp2_with (first | ((with_reducible refine zC (f := 68) rfl ?_); refine zGo (some 13) Try.func68 #[.agg #[.int .i64 t329, .int .u64 t330]] ?_; (with_reducible refine (sequiturref01_Minus.calls t329 t330 t332 t333 _ A11.out).mono ?_); rintro e w14 ⟨rfl, hb⟩; refine ⟨_, rfl, ?_⟩; replace BK328 := zbb BK328 hb; replace BK331 := zK (blk_below (g := gb331) (o := .cells #[.int .i64 t329, .int .u64 t330] 78 (0, 0)) (by refine zM ?_; refine blk_put (cs := #[.int .i64 t329, .int .u64 0]) ?_ 1 _ rfl; refine zM ?_; refine blk_put (cs := #[.int .i64 0, .int .u64 0]) ?_ 0 _ rfl; refine zM ?_; exact BK331.out) hb); replace HB := zst HB hb; clear hb; have hcz15_0 := zc0 BK331; have hcz15_1 := zc1 BK331; have hfz15_0 := zfz BK331 0; have hfz15_1 := zfz BK331 1))
   go_meet
   case rel => exact ⟨_, (t332), (t333), H', ⟨by first | omega | exact Nat.le_refl _⟩, ⟨zb BK328⟩, ⟨by refine zM ?_; refine blk_put (cs := #[.int .i64 t332, .int .u64 t330]) ?_ 1 _ rfl; refine zM ?_; refine blk_put (cs := #[.int .i64 t329, .int .u64 t330]) ?_ 0 _ rfl; refine zM ?_; exact BK331.out⟩, ⟨zo HB⟩⟩
  ·rw [if_neg c10] at H
   have c10b0 : decide (a1 < 0) = false := decide_eq_false c10; clear c10
   (first | rw [c10b0] | (simp only [i64_w, i32_w]; rw [c10b0]) | skip)
   have H' := zK H; clear H
   go_wp2
   go_meet
   case rel => exact ⟨_, (t329), (t330), H', ⟨by first | omega | exact Nat.le_refl _⟩, ⟨zb BK328⟩, ⟨by refine zM ?_; refine blk_put (cs := #[.int .i64 t329, .int .u64 0]) ?_ 1 _ rfl; refine zM ?_; refine blk_put (cs := #[.int .i64 0, .int .u64 0]) ?_ 0 _ rfl; refine zM ?_; exact BK331.out⟩, ⟨zo HB⟩⟩
 case rest =>
  clear HC4; try clear c1; try clear p2; try clear c5
  try clear c6; try clear c8; try clear c10; try clear c10b0
  try clear c12; try clear hcz13_0; try clear hcz13_1; try clear hcz15_0
  try clear hcz15_1; try clear hcz9_0; try clear hcz9_1; try clear hfz13_0
  try clear hfz13_1; try clear hfz15_0; try clear hfz15_1; try clear hfz9_0
  try clear hfz9_1
  obtain ⟨kq, x332000_3, x332001_3, HA, HJ3, BK328, BK331, HB⟩ := hcut
  cases kq with
  | zero => exact absurd HA.out (by simp [sequiturref01_Times.j0])
  | succ kj3 =>
   have H := HA.out; clear HA
   simp only [sequiturref01_Times.j0] at H
   replace H := zob H
   obtain ⟨t335, A160, H⟩ := H
   replace H : (sequiturref01_Times.l0 kj3 t335 x332000_3 x332001_3 0 0) = some (r1, r2) := H
   have A16 := zK A160; clear A160
   have H' := zK H; clear H
   go_wp2_with (first | ((with_reducible refine gate_dst (N := 6) rfl ?_); refine zBx HB (cs := #[.int .i64 0, .int .u64 0]) (t := 78) ?_; clear HB; intro gb334 hg w17 BK334 GW334 hb HB; have NB328_334 := zn1 BK328 hg; have NB334_328 := zn2 BK328 hg; replace BK328 := zbb BK328 hb; have NB331_334 := zn1 BK331 hg; have NB334_331 := zn2 BK331 hg; replace BK331 := zbb BK331 hb; clear hb hg; have hnb18 := NB334_328.out; have hnc18 := NB328_334.out; have hnb19 := NB334_331.out; have hnc19 := NB331_334.out; have hcz20_0 := zc0 BK334; have hcz20_1 := zc1 BK334; have hfz20_0 := zfz BK334 0; have hfz20_1 := zfz BK334 1) | ((with_reducible refine zC (f := 69) rfl ?_); refine zGo (some 16) Try.func69 #[.int .i64 a1] ?_; (with_reducible refine (sequiturref01_Far.calls a1 t335 _ A16.out).mono ?_); rintro e w' ⟨rfl, ⟨nd, rfl⟩⟩; refine ⟨_, rfl, ?_⟩))
   go_loopg [7] kj3 (fun kq v7 w' => ∃ (x7_2 : Int) (x332000_2 : Int) (x332001_2 : Int) (x335000_2 : Int) (x335001_2 : Int), v7 = .int .u64 x7_2 ∧ Aside0 (sequiturref01_Times.l0 kq x7_2 x332000_2 x332001_2 x335000_2 x335001_2 = some (r1, r2)) ∧ Aside0 (kq ≤ kj3) ∧ Aside0 (w'.heap[gb328]? = some (.cells #[.int .i64 0, .int .u64 0] 78 (0, 0))) ∧ Aside0 (w'.heap[gb331]? = some (.cells #[.int .i64 x332000_2, .int .u64 x332001_2] 78 (0, 0))) ∧ Aside0 (w'.heap[gb334]? = some (.cells #[.int .i64 x335000_2, .int .u64 x335001_2] 78 (0, 0))) ∧ Aside0 (Below w.heap.size w w'))
   case atStart => exact ⟨(t335), (x332000_3), (x332001_3), (0), (0), (by first | rfl | (simp; done) | (simp [*]; done)), H', ⟨Nat.le_refl _⟩, ⟨zb BK328⟩, ⟨zb BK331⟩, ⟨by refine zM ?_; refine blk_put (cs := #[.int .i64 0, .int .u64 0]) ?_ 1 _ rfl; refine zM ?_; refine blk_put (cs := #[.int .i64 0, .int .u64 0]) ?_ 0 _ rfl; refine zM ?_; exact BK334.out⟩, ⟨zo HB⟩⟩
   case round =>
    clear H'; try clear c1; try clear p2; try clear c5
    try clear c6; try clear c8; try clear c10; try clear c10b0
    try clear c12; try clear c18; try clear c19; try clear hcz13_0
    try clear hcz13_1; try clear hcz15_0; try clear hcz15_1; try clear hcz20_0
    try clear hcz20_1; try clear hcz9_0; try clear hcz9_1; try clear hfz13_0
    try clear hfz13_1; try clear hfz15_0; try clear hfz15_1; try clear hfz20_0
    try clear hfz20_1; try clear hfz9_0; try clear hfz9_1; try clear p2
    obtain ⟨x7_2, x332000_2, x332001_2, x335000_2, x335001_2, rfl, HA, HK2, BK328, BK331, BK334, HB⟩ := hrel
    cases gk with
    | zero => exact absurd HA.out (by simp [sequiturref01_Times.l0])
    | succ k2 =>
     have H := HA.out; clear HA
     simp only [sequiturref01_Times.l0] at H
     by_cases c21 : x7_2 > 0
     ·rw [if_pos c21] at H
      have c21b0 : decide (0 < x7_2) = true := decide_eq_true c21; clear c21
      by_cases c22 : (Int.tmod x7_2 2) = 1
      ·rw [if_pos c22] at H
       have c22b0 : ((Int.tmod x7_2 2) == 1) = true := beq_iff_eq.mpr c22
       have c22b1 : ((Int.tmod x7_2 2) != 1) = false := bne_eq_false_iff_eq.mpr c22
       clear c22; replace H := zob H
       obtain ⟨⟨t336, t337⟩, A230, H⟩ := H
       replace H : ((sequiturref01_Plus.f x332000_2 x332001_2 x332000_2 x332001_2).bind fun bt338 => (sequiturref01_Times.l0 k2 (IntKind.u64.wrap (Int.tdiv x7_2 2)) bt338.1 bt338.2 t336 t337)) = some (r1, r2) := H
       have A23 := zK A230; clear A230; replace H := zob H
       obtain ⟨⟨t338, t339⟩, A240, H⟩ := H
       replace H : (sequiturref01_Times.l0 k2 (IntKind.u64.wrap (Int.tdiv x7_2 2)) t338 t339 t336 t337) = some (r1, r2) := H
       have A24 := zK A240; clear A240
       have H' := zK H; clear H
       have hnb25 := NB334_328.out
       have hnc25 := NB328_334.out
       have hnb26 := NB334_331.out
       have hnc26 := NB331_334.out
       have hcz27_0 := zc0 BK334
       have hcz27_1 := zc1 BK334
       have hfz27_0 := zfz BK334 0
       have hfz27_1 := zfz BK334 1
       have hnb28 := NB331_328.out
       have hnc28 := NB328_331.out
       have hcz29_0 := zc0 BK331
       have hcz29_1 := zc1 BK331
       have hfz29_0 := zfz BK331 0
       have hfz29_1 := zfz BK331 1
       go_wp2_with (first | ((with_reducible refine zC (f := 53) rfl ?_); refine zGo (some 26) Try.func53 #[.agg #[.int .i64 x335000_2, .int .u64 x335001_2], .agg #[.int .i64 x332000_2, .int .u64 x332001_2]] ?_; (with_reducible refine (sequiturref01_Plus.calls x335000_2 x335001_2 x332000_2 x332001_2 t336 t337 _ A23.out).mono ?_); rintro e w30 ⟨rfl, hb⟩; refine ⟨_, rfl, ?_⟩; replace BK328 := zbb BK328 hb; replace BK331 := zbb BK331 hb; replace BK334 := zbb BK334 hb; replace HB := zst HB hb; clear hb; have hcz31_0 := zc0 BK334; have hcz31_1 := zc1 BK334; have hfz31_0 := zfz BK334 0; have hfz31_1 := zfz BK334 1; have hcz32_0 := zc0 BK331; have hcz32_1 := zc1 BK331; have hfz32_0 := zfz BK331 0; have hfz32_1 := zfz BK331 1) | ((with_reducible refine zC (f := 53) rfl ?_); refine zGo (some 29) Try.func53 #[.agg #[.int .i64 x332000_2, .int .u64 x332001_2], .agg #[.int .i64 x332000_2, .int .u64 x332001_2]] ?_; (with_reducible refine (sequiturref01_Plus.calls x332000_2 x332001_2 x332000_2 x332001_2 t338 t339 _ A24.out).mono ?_); rintro e w33 ⟨rfl, hb⟩; refine ⟨_, rfl, ?_⟩; replace BK328 := zbb BK328 hb; replace BK331 := zbb BK331 hb; replace BK334 := zK (blk_below (g := gb334) (o := .cells #[.int .i64 t336, .int .u64 t337] 78 (0, 0)) (by refine zM ?_; refine blk_put (cs := #[.int .i64 t336, .int .u64 x335001_2]) ?_ 1 _ rfl; refine zM ?_; refine blk_put (cs := #[.int .i64 x335000_2, .int .u64 x335001_2]) ?_ 0 _ rfl; refine zM ?_; exact BK334.out) hb); replace HB := zst HB hb; clear hb; have hcz34_0 := zc0 BK331; have hcz34_1 := zc1 BK331; have hfz34_0 := zfz BK331 0; have hfz34_1 := zfz BK331 1))
       go_roundg k2
       case measure => have := HJ3.out; have := HK2.out; omega
       case rel => exact ⟨(IntKind.u64.wrap (Int.tdiv x7_2 2)), (t338), (t339), (t336), (t337), (by first | rfl | (simp; done) | (simp [*]; done)), H', ⟨by have := HJ3.out; have := HK2.out; omega⟩, ⟨zb BK328⟩, ⟨by refine zM ?_; refine blk_put (cs := #[.int .i64 t338, .int .u64 x332001_2]) ?_ 1 _ rfl; refine zM ?_; refine blk_put (cs := #[.int .i64 x332000_2, .int .u64 x332001_2]) ?_ 0 _ rfl; refine zM ?_; exact BK331.out⟩, ⟨zb BK334⟩, ⟨zo HB⟩⟩
      ·rw [if_neg c22] at H
       have c22b0 : ((Int.tmod x7_2 2) == 1) = false := beq_eq_false_iff_ne.mpr c22
       have c22b1 : ((Int.tmod x7_2 2) != 1) = true := bne_iff_ne.mpr c22
       replace H := zob H
       obtain ⟨⟨t340, t341⟩, A350, H⟩ := H
       replace H : (sequiturref01_Times.l0 k2 (IntKind.u64.wrap (Int.tdiv x7_2 2)) t340 t341 x335000_2 x335001_2) = some (r1, r2) := H
       have A35 := zK A350; clear A350
       have H' := zK H; clear H
       have hnb36 := NB331_328.out
       have hnc36 := NB328_331.out
       have hnb37 := NB331_334.out
       have hnc37 := NB334_331.out
       have hcz38_0 := zc0 BK331
       have hcz38_1 := zc1 BK331
       have hfz38_0 := zfz BK331 0
       have hfz38_1 := zfz BK331 1
       go_wp2_with (first | ((with_reducible refine zC (f := 53) rfl ?_); refine zGo (some 29) Try.func53 #[.agg #[.int .i64 x332000_2, .int .u64 x332001_2], .agg #[.int .i64 x332000_2, .int .u64 x332001_2]] ?_; (with_reducible refine (sequiturref01_Plus.calls x332000_2 x332001_2 x332000_2 x332001_2 t340 t341 _ A35.out).mono ?_); rintro e w39 ⟨rfl, hb⟩; refine ⟨_, rfl, ?_⟩; replace BK328 := zbb BK328 hb; replace BK331 := zbb BK331 hb; replace BK334 := zbb BK334 hb; replace HB := zst HB hb; clear hb; have hcz40_0 := zc0 BK331; have hcz40_1 := zc1 BK331; have hfz40_0 := zfz BK331 0; have hfz40_1 := zfz BK331 1))
       go_roundg k2
       case measure => have := HJ3.out; have := HK2.out; omega
       case rel => exact ⟨(IntKind.u64.wrap (Int.tdiv x7_2 2)), (t340), (t341), (x335000_2), (x335001_2), (by first | rfl | (simp; done) | (simp [*]; done)), H', ⟨by have := HJ3.out; have := HK2.out; omega⟩, ⟨zb BK328⟩, ⟨by refine zM ?_; refine blk_put (cs := #[.int .i64 t340, .int .u64 x332001_2]) ?_ 1 _ rfl; refine zM ?_; refine blk_put (cs := #[.int .i64 x332000_2, .int .u64 x332001_2]) ?_ 0 _ rfl; refine zM ?_; exact BK331.out⟩, ⟨zb BK334⟩, ⟨zo HB⟩⟩
     ·rw [if_neg c21] at H
      have c21b0 : decide (0 < x7_2) = false := decide_eq_false c21; clear c21
      simp only [Option.some.injEq, Prod.mk.injEq] at H
      obtain ⟨rfl, rfl⟩ := H
      have hnb41 := NB334_328.out
      have hnc41 := NB328_334.out
      have hnb42 := NB334_331.out
      have hnc42 := NB331_334.out
      have hcz43_0 := zc0 BK334
      have hcz43_1 := zc1 BK334
      have hfz43_0 := zfz BK334 0
      have hfz43_1 := zfz BK334 1
      have hnb44 := NB328_331.out
      have hnc44 := NB331_328.out
      have hcz45_0 := zc0 BK328
      have hcz45_1 := zc1 BK328
      have hfz45_0 := zfz BK328 0
      have hfz45_1 := zfz BK328 1
      go_wp2
      refine bodyPost_ret (results_cell_row rfl _ _ gb328 78 #[.int .i64 x335000_2, .int .u64 x335001_2] (0, 0) _ rfl (by refine zM ?_; refine blk_put (cs := #[.int .i64 x335000_2, .int .u64 0]) ?_ 1 _ rfl; refine zM ?_; refine blk_put (cs := #[.int .i64 0, .int .u64 0]) ?_ 0 _ rfl; refine zM ?_; exact BK328.out) Try.underlying78 rfl (by kernel_rfl)) rfl ?_
      exact zR (h := zo HB)

end Go.Proofs.Ytjinmlpekecmbaa.PEuclidChecks
