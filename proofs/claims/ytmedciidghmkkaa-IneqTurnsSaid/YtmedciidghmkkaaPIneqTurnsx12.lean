/- What the call of each function that the law reaches comes to: it answers as the plain function of the same name does, wherever that one answers; and the law itself out of its plain form. Written by a program of this session (an extended copy of the printer); no condition but what stands in each theorem. -/
import Derived.Test.YtmedciidghmkkaaPIneqTurnsx0
import Derived.Test.YtmedciidghmkkaaPIneqTurnsx10
import Derived.Test.YtmedciidghmkkaaPIneqTurnsx11
namespace Go.Proofs.Ytmedciidghmkkaa.PIneqTurns
open Go.RowKit Go.Proofs.YtmedciidghmkkaaW.PrintWords Go.Proofs.YtmedciidghmkkaaW.PrintLast Go.Proofs.YtmedciidghmkkaaW.PrintMore
open Go.Proofs.YtmedciidghmkkaaW.PrintWords renaming blk_drewN → zN, blk_drew → zD, blk_alloc → zA, below_alloc → yA, pw_below_drewN → yN, below_drew1 → yD, below_set → yS, gate_callee → zC
open Go.Proofs.YtmedciidghmkkaaW.PrintWords.Kd renaming C_alloc → cA, C_drewN → cN, C_drew → cD
open Go.Proofs.YtmedciidghmkkaaW.PrintWords.Aside0 renaming mk → zK
attribute [local go_sem] max2_int min2_int max_two min_two max_three min_three max_four min_four   -- for this text's walks alone
set_option linter.unusedVariables false
set_option linter.unusedSimpArgs false

/-! ### sequiturref28_Lin: function 32 -/
mutual
def sequiturref28_Lin.l0 : Nat → List (S28) → List Int → Int → Int → Int → Int → Option (Int × (List (S47)) × Int)
 | 0, _, _, _, _, _, _ => none
 | k + 1, x0, x1, x7, x346000, x346001, x346002 => if x7 < (x0.length : Int) then (if 0 ≤ x7 then (if x7 < (x1.length : Int) then ((sequiturref28_More.f k x346000 x346001 x346002 ((rd_T28 x0 x7).f0) (rd x1 x7)).bind fun bt348 => (sequiturref28_Lin.l0 k x0 x1 (wrap64 (x7 + 1)) bt348.1 bt348.2.1 bt348.2.2)) else (none)) else (none)) else ((sequiturref28_Fits.f x346000 x346001 x346002).bind fun bt351 => (sequiturref28_Lin.l1 k x0 x1 bt351.2 0 bt351.1 ([] : List (S47))))
def sequiturref28_Lin.l1 : Nat → List (S28) → List Int → Bool → Int → Int → List (S47) → Option (Int × (List (S47)) × Int)
 | 0, _, _, _, _, _, _ => none
 | k + 1, x0, x1, x9, x11, x354000, x354001 => if x11 < 64 then (sequiturref28_Lin.l2 k x0 x1 x9 x11 0 x354000 x354001 0 0 0) else (if x9 = true then (some (x354000, x354001, 0)) else (some (0, ([] : List (S47)), 5)))
def sequiturref28_Lin.l2 : Nat → List (S28) → List Int → Bool → Int → Int → Int → List (S47) → Int → Int → Int → Option (Int × (List (S47)) × Int)
 | 0, _, _, _, _, _, _, _, _, _, _ => none
 | k + 1, x0, x1, x9, x11, x13, x354000, x354001, x355000, x355001, x355002 => if x13 < (x0.length : Int) then (if 0 ≤ x13 then ((sequiturref28_By.f k ((rd_T28 x0 x13).f0) ((rd_T28 x0 x13).f1) x11).bind fun t356 => (if x13 < (x1.length : Int) then ((sequiturref28_More.f k x355000 x355001 x355002 t356 (rd x1 x13)).bind fun bt358 => (sequiturref28_Lin.l2 k x0 x1 x9 x11 (wrap64 (x13 + 1)) x354000 x354001 bt358.1 bt358.2.1 bt358.2.2)) else (none))) else (none)) else ((sequiturref28_Fits.f x355000 x355001 x355002).bind fun bt361 => (if x9 = true then (if bt361.1 = 0 then (sequiturref28_Lin.l1 k x0 x1 bt361.2 (wrap64 (x11 + 1)) x354000 x354001) else (if x354001.length < 8796093022208 then (sequiturref28_Lin.l1 k x0 x1 bt361.2 (wrap64 (x11 + 1)) x354000 (x354001 ++ [(⟨x11, bt361.1⟩ : S47)])) else (none))) else (if bt361.1 = 0 then (sequiturref28_Lin.l1 k x0 x1 false (wrap64 (x11 + 1)) x354000 x354001) else (if x354001.length < 8796093022208 then (sequiturref28_Lin.l1 k x0 x1 false (wrap64 (x11 + 1)) x354000 (x354001 ++ [(⟨x11, bt361.1⟩ : S47)])) else (none)))))
end
def sequiturref28_Lin.f (k : Nat) (l0 : List (S28)) (l1 : List Int) : Option (Int × (List (S47)) × Int) := sequiturref28_Lin.l0 k l0 l1 0 0 0 0
theorem sequiturref28_Lin.mono_l : ∀ k, (∀ y0 y1 y2 y3 y4 y5, LeO (sequiturref28_Lin.l0 k y0 y1 y2 y3 y4 y5) (sequiturref28_Lin.l0 (k + 1) y0 y1 y2 y3 y4 y5)) ∧ (∀ y0 y1 y2 y3 y4 y5, LeO (sequiturref28_Lin.l1 k y0 y1 y2 y3 y4 y5) (sequiturref28_Lin.l1 (k + 1) y0 y1 y2 y3 y4 y5)) ∧ (∀ y0 y1 y2 y3 y4 y5 y6 y7 y8 y9, LeO (sequiturref28_Lin.l2 k y0 y1 y2 y3 y4 y5 y6 y7 y8 y9) (sequiturref28_Lin.l2 (k + 1) y0 y1 y2 y3 y4 y5 y6 y7 y8 y9))
 | 0 => ⟨fun _ _ _ _ _ _ r h => by simp [sequiturref28_Lin.l0] at h, fun _ _ _ _ _ _ r h => by simp [sequiturref28_Lin.l1] at h, fun _ _ _ _ _ _ _ _ _ _ r h => by simp [sequiturref28_Lin.l2] at h⟩
 | k + 1 => by
  obtain ⟨ih0, ih1, ih2⟩ := sequiturref28_Lin.mono_l k
  refine ⟨?_, ?_, ?_⟩
  ·intro y0 y1 y2 y3 y4 y5
   unfold sequiturref28_Lin.l0
   repeat' first
   | (with_reducible exact ih0 _ _ _ _ _ _)
   | (with_reducible exact ih1 _ _ _ _ _ _)
   | (with_reducible exact ih2 _ _ _ _ _ _ _ _ _ _)
   | (with_reducible exact sequiturref28_By.mono _ _ _ _)
   | (with_reducible exact sequiturref28_More.mono _ _ _ _ _ _)
   | (with_reducible exact LeO.refl _)
   | (with_reducible exact LeO.none _)
   | (with_reducible refine LeO.ite ?_ ?_)
   | (with_reducible refine LeO.bind ?_ (fun _ => ?_))
   | exact ih0 _ _ _ _ _ _
   | exact ih1 _ _ _ _ _ _
   | exact ih2 _ _ _ _ _ _ _ _ _ _
   | exact sequiturref28_By.mono _ _ _ _
   | exact sequiturref28_More.mono _ _ _ _ _ _
   | exact LeO.none _
   | refine LeO.ite ?_ ?_
   | refine LeO.bind ?_ (fun _ => ?_)
  ·intro y0 y1 y2 y3 y4 y5
   unfold sequiturref28_Lin.l1
   repeat' first
   | (with_reducible exact ih0 _ _ _ _ _ _)
   | (with_reducible exact ih1 _ _ _ _ _ _)
   | (with_reducible exact ih2 _ _ _ _ _ _ _ _ _ _)
   | (with_reducible exact sequiturref28_By.mono _ _ _ _)
   | (with_reducible exact sequiturref28_More.mono _ _ _ _ _ _)
   | (with_reducible exact LeO.refl _)
   | (with_reducible exact LeO.none _)
   | (with_reducible refine LeO.ite ?_ ?_)
   | (with_reducible refine LeO.bind ?_ (fun _ => ?_))
   | exact ih0 _ _ _ _ _ _
   | exact ih1 _ _ _ _ _ _
   | exact ih2 _ _ _ _ _ _ _ _ _ _
   | exact sequiturref28_By.mono _ _ _ _
   | exact sequiturref28_More.mono _ _ _ _ _ _
   | exact LeO.none _
   | refine LeO.ite ?_ ?_
   | refine LeO.bind ?_ (fun _ => ?_)
  ·intro y0 y1 y2 y3 y4 y5 y6 y7 y8 y9
   unfold sequiturref28_Lin.l2
   repeat' first
   | (with_reducible exact ih0 _ _ _ _ _ _)
   | (with_reducible exact ih1 _ _ _ _ _ _)
   | (with_reducible exact ih2 _ _ _ _ _ _ _ _ _ _)
   | (with_reducible exact sequiturref28_By.mono _ _ _ _)
   | (with_reducible exact sequiturref28_More.mono _ _ _ _ _ _)
   | (with_reducible exact LeO.refl _)
   | (with_reducible exact LeO.none _)
   | (with_reducible refine LeO.ite ?_ ?_)
   | (with_reducible refine LeO.bind ?_ (fun _ => ?_))
   | exact ih0 _ _ _ _ _ _
   | exact ih1 _ _ _ _ _ _
   | exact ih2 _ _ _ _ _ _ _ _ _ _
   | exact sequiturref28_By.mono _ _ _ _
   | exact sequiturref28_More.mono _ _ _ _ _ _
   | exact LeO.none _
   | refine LeO.ite ?_ ?_
   | refine LeO.bind ?_ (fun _ => ?_)
theorem sequiturref28_Lin.mono : ∀ a0 a1 k, LeO (sequiturref28_Lin.f k a0 a1) (sequiturref28_Lin.f (k + 1) a0 a1) := by
 intro a0 a1 k
 obtain ⟨ih0, ih1, ih2⟩ := sequiturref28_Lin.mono_l k
 unfold sequiturref28_Lin.f
 repeat' first
   | (with_reducible exact ih0 _ _ _ _ _ _)
   | (with_reducible exact ih1 _ _ _ _ _ _)
   | (with_reducible exact ih2 _ _ _ _ _ _ _ _ _ _)
   | (with_reducible exact sequiturref28_By.mono _ _ _ _)
   | (with_reducible exact sequiturref28_More.mono _ _ _ _ _ _)
   | (with_reducible exact LeO.refl _)
   | (with_reducible exact LeO.none _)
   | (with_reducible refine LeO.ite ?_ ?_)
   | (with_reducible refine LeO.bind ?_ (fun _ => ?_))
   | exact ih0 _ _ _ _ _ _
   | exact ih1 _ _ _ _ _ _
   | exact ih2 _ _ _ _ _ _ _ _ _ _
   | exact sequiturref28_By.mono _ _ _ _
   | exact sequiturref28_More.mono _ _ _ _ _ _
   | exact LeO.none _
   | refine LeO.ite ?_ ?_
   | refine LeO.bind ?_ (fun _ => ?_)
def sequiturref28_Lin.T5 : Bool × List (List Nat × List Nat) := (true, [([], []), ([], []), ([], []), ([1, 2], [1, 2]), ([3], [3]), ([4], [4]), ([], []), ([], []), ([6, 7], [6, 7]), ([8], [8]), ([0, 5, 9], [0, 5, 9]), ([10, 10, 0, 1, 2, 3, 4, 5, 6, 7, 8, 9, 10], [10])])
def sequiturref28_Lin.B5 : List Nat := [0, 0, 0, 6, 14, 30, 0, 0, 192, 448, 1023, 2047]
theorem sequiturref28_Lin.tab5 : rtab .any (opsOf Try.f32 5) = sequiturref28_Lin.T5 := by kernel_rfl
theorem sequiturref28_Lin.bits5 : waitsOk sequiturref28_Lin.T5.2 sequiturref28_Lin.B5 = true := by kernel_rfl
def sequiturref28_Lin.T15 : Bool × List (List Nat × List Nat) := (true, [([], []), ([], []), ([], []), ([1, 2], [1, 2]), ([3], [3]), ([], []), ([4, 5], [4, 5]), ([], []), ([], []), ([7, 8], [7, 8]), ([9], [9]), ([0, 6, 10, 6], [0, 6, 10]), ([11, 11, 0, 1, 2, 3, 4, 5, 6, 7, 8, 9, 10, 11], [11])])
def sequiturref28_Lin.B15 : List Nat := [0, 0, 0, 6, 14, 0, 62, 0, 0, 384, 896, 2047, 4095]
theorem sequiturref28_Lin.tab15 : rtab .any (opsOf Try.f32 15) = sequiturref28_Lin.T15 := by kernel_rfl
theorem sequiturref28_Lin.bits15 : waitsOk sequiturref28_Lin.T15.2 sequiturref28_Lin.B15 = true := by kernel_rfl
set_option maxHeartbeats 8000000 in
set_option maxRecDepth 100000 in
theorem sequiturref28_Lin.calls (k : Nat) (A0 : Option Addr) (c0 : Nat) (l0 : List (S28)) (A1 : Option Addr) (c1 : Nat) (l1 : List Int) (r1 : Int) (r2 : List (S47)) (r3 : Int) (w : World) (hr0 : Kd.C k28 w A0 l0.length l0) (hc0 : l0.length ≤ c0) (hr1 : Kd.C (Kd.int .i64) w A1 l1.length l1) (hc1 : l1.length ≤ c1) (h : sequiturref28_Lin.f k l0 l1 = some (r1, r2, r3)) :
  Calls Try.prog 32 #[.slice A0 l0.length c0, .slice A1 l1.length c1] w fun e w' => ∃ v1_ : Value, e = .returned (.tuple #[.agg #[.int .i64 r1, v1_], .int .i64 r3]) ∧ Kd.R k47 47 w' w.heap.size (fun _ => True) v1_ r2 ∧ Below w.heap.size w w' := by
 have hu28 := Try.underlying28
 have hu76 := Try.underlying76
 have hu47 := Try.underlying47
 have HR0 := zK hr0
 have HC0 := zK hc0
 clear hr0 hc0
 have HR1 := zK hr1
 have HC1 := zK hc1
 clear hr1 hc1
 have HB := zK (Below.refl w.heap.size w)
 have H : (sequiturref28_Lin.l0 k l0 l1 0 0 0 0) = some (r1, r2, r3) := h
 clear h
 have H' := zK H
 clear H
 go_enter Try.func32, Try.ntmps32
 go_wp2_with (first | ((with_reducible refine gate_dst (N := 4) rfl ?_); refine box_event ?hg (N := 4) ?hd (cs := #[.int .i64 0, .slice none 0 0]) (t := 28) ?hr ?_; (case hd => rfl); (case hg => rfl); (case hr => first | (go_simp; done) | (go_simp; rfl)); intro gb344 hg w3 hbox hb; have BK344 := zK (hbox); have GW344 := zK ((by rw [hg]; exact (below_size (zo HB)) : w.heap.size ≤ gb344)); have GE344 := zK ((by rw [hg]; exact (below_size (zo HB)) : w.heap.size ≤ gb344)); replace HB := zK (below_step (zo HB) hb); clear hb hbox hg) | ((with_reducible refine gate_dst (N := 6) rfl ?_); refine box_event ?hg (N := 6) ?hd (cs := #[.int .i64 0, .int .u64 0, .int .u64 0]) (t := 76) ?hr ?_; (case hd => rfl); (case hg => rfl); (case hr => first | (go_simp; done) | (go_simp; rfl)); intro gb345 hg w4 hbox hb; have BK345 := zK (hbox); have GW345 := zK ((by rw [hg]; exact (below_size (zo HB)) : w.heap.size ≤ gb345)); have GE345 := zK ((by rw [hg]; exact (below_size (zo HB)) : w.heap.size ≤ gb345)); replace HB := zK (below_step (zo HB) hb); have NB344_345 := zK ((by rw [hg]; exact Nat.ne_of_lt (blk_lt (g := gb344) (o := .cells #[.int .i64 0, .slice none 0 0] 28 (0, 0)) (zb BK344)) : gb344 ≠ gb345)); have NB345_344 := zK ((by rw [hg]; exact Nat.ne_of_gt (blk_lt (g := gb344) (o := .cells #[.int .i64 0, .slice none 0 0] 28 (0, 0)) (zb BK344)) : gb345 ≠ gb344)); replace BK344 := zK (blk_below (g := gb344) (o := .cells #[.int .i64 0, .slice none 0 0] 28 (0, 0)) (zb BK344) hb); clear hb hbox hg; have hnb5 := NB345_344.out; have hnc5 := NB344_345.out; have hcz6_0 : w4.cell? ⟨gb345, 0, none⟩ = some (.int .i64 0) := (blk_cell BK345.out 0).trans rfl; have hcz6_1 : w4.cell? ⟨gb345, 1, none⟩ = some (.int .u64 0) := (blk_cell BK345.out 1).trans rfl; have hcz6_2 : w4.cell? ⟨gb345, 2, none⟩ = some (.int .u64 0) := (blk_cell BK345.out 2).trans rfl; have hfz6_0 := blk_frozen BK345.out 0; have hfz6_1 := blk_frozen BK345.out 1; have hfz6_2 := blk_frozen BK345.out 2))
 go_loopg [7] k (fun kq v7 w' => ∃ (x7_1 : Int) (x346000_1 : Int) (x346001_1 : Int) (x346002_1 : Int), v7 = .int .i64 x7_1 ∧ Aside0 (sequiturref28_Lin.l0 kq l0 l1 x7_1 x346000_1 x346001_1 x346002_1 = some (r1, r2, r3)) ∧ Aside0 (kq ≤ k) ∧ Aside0 (w'.heap[gb344]? = some (.cells #[.int .i64 0, (.slice none 0 0)] 28 (0, 0))) ∧ Aside0 (w'.heap[gb345]? = some (.cells #[.int .i64 x346000_1, .int .u64 x346001_1, .int .u64 x346002_1] 76 (0, 0))) ∧ Aside0 (Below w.heap.size w w'))
 case atStart => exact ⟨(0), (0), (0), (0), (by first | rfl | (simp; done) | (simp [*]; done)), H', ⟨Nat.le_refl _⟩, ⟨zb BK344⟩, ⟨by refine zM ?_; refine blk_put (cs := #[.int .i64 0, .int .u64 0, .int .u64 0]) ?_ 2 _ rfl; refine zM ?_; refine blk_put (cs := #[.int .i64 0, .int .u64 0, .int .u64 0]) ?_ 1 _ rfl; refine zM ?_; refine blk_put (cs := #[.int .i64 0, .int .u64 0, .int .u64 0]) ?_ 0 _ rfl; refine zM ?_; exact BK345.out⟩, ⟨zo HB⟩⟩
 case round =>
  clear H'
  try clear c1
  try clear p2
  try clear c3
  try clear c5
  try clear hcz6_0
  try clear hcz6_1
  try clear hcz6_2
  try clear hfz6_0
  try clear hfz6_1
  try clear hfz6_2
  obtain ⟨x7_1, x346000_1, x346001_1, x346002_1, rfl, HA, HK1, BK344, BK345, HB⟩ := hrel
  cases gk with
  | zero => exact absurd HA.out (by simp [sequiturref28_Lin.l0])
  | succ k1 =>
   have H := HA.out
   clear HA
   simp only [sequiturref28_Lin.l0] at H
   by_cases c7 : x7_1 < (l0.length : Int)
   ·rw [if_pos c7] at H
    have c7b0 : decide (x7_1 < (l0.length : Int)) = true := decide_eq_true c7
    clear c7
    by_cases c8 : 0 ≤ x7_1
    ·rw [if_pos c8] at H
     have c8b0 : decide (0 ≤ x7_1) = true := decide_eq_true c8
     clear c8
     by_cases c9 : x7_1 < (l1.length : Int)
     ·rw [if_pos c9] at H
      have c9b0 : decide (x7_1 < (l1.length : Int)) = true := decide_eq_true c9
      clear c9
      replace H := Option.bind_eq_some_iff.mp H
      obtain ⟨⟨t348, t349, t350⟩, A100, H⟩ := H
      replace H : (sequiturref28_Lin.l0 k1 l0 l1 (wrap64 (x7_1 + 1)) t348 t349 t350) = some (r1, r2, r3) := H
      have A10 := zK A100
      clear A100
      have H' := zK H
      clear H
      try go_wp2
      replace BK344 := zK (zD BK344.out)
      replace BK345 := zK (zD BK345.out)
      replace HB := zK (yD HB.out)
      have p346 : 0 ≤ (x7_1 : Int) := of_decide_eq_true (by first | (with_reducible assumption) | assumption)
      have q346 : x7_1 < (l0.length : Int) := of_decide_eq_true (by first | (with_reducible assumption) | assumption)
      obtain ⟨ad346, A346_1, c346_1, e346, hx346_0, hx346_1, hl346_1, hi346_1⟩ := at_T28 HR0.out x7_1 p346 q346
      have hw346_1 := hx346_1
      have hw346_0 := hx346_0
      cases e346
      replace hx346_0 := (HB.out.cell (World.block_lt_of_cell? w _ hx346_0)).trans hx346_0
      replace hx346_1 := (HB.out.cell (World.block_lt_of_cell? w _ hx346_1)).trans hx346_1
      have HR346_1 := zK hi346_1
      have HC346_1 := zK hl346_1
      clear hi346_1 hl346_1
      replace p346 := eq_true p346
      replace q346 := eq_true q346
      have p347 : 0 ≤ (x7_1 : Int) := of_decide_eq_true (by first | (with_reducible assumption) | assumption)
      have q347 : x7_1 < (l1.length : Int) := of_decide_eq_true (by first | (with_reducible assumption) | assumption)
      obtain ⟨ad347, e347, hx347_0⟩ := Kd.at_int HR1.out x7_1 p347 q347
      have hw347_0 := hx347_0
      cases e347
      replace hx347_0 := (HB.out.cell (World.block_lt_of_cell? w _ hx347_0)).trans hx347_0
      replace p347 := eq_true p347
      replace q347 := eq_true q347
      refine start_ (n := 12) (S := fun w' => w'.cell? ⟨gb345, 0, none⟩ = some (.int .i64 x346000_1) ∧ w'.cell? ⟨gb345, 1, none⟩ = some (.int .u64 x346001_1) ∧ w'.cell? ⟨gb345, 2, none⟩ = some (.int .u64 x346002_1) ∧ w'.cell? (ad346.add ((x7_1).toNat * 2)) = some (.int .i64 ((rd_T28 l0 x7_1).f0)) ∧ w'.cell? ⟨(ad346.add ((x7_1).toNat * 2)).block, (ad346.add ((x7_1).toNat * 2)).off + 1, none⟩ = some (.slice A346_1 ((rd_T28 l0 x7_1).f1).length c346_1) ∧ w'.cell? (ad347.add (x7_1).toNat) = some (.int .i64 (rd l1 x7_1))) (ds := [11]) #[false, false, false, false, false, false, false, false, false, false, false, false] (by kernel_rfl) rfl rfl ⟨(blk_cell BK345.out 0).trans rfl, (blk_cell BK345.out 1).trans rfl, (blk_cell BK345.out 2).trans rfl, ((HB.out.cell (World.block_lt_of_cell? w _ hw346_0)).trans hw346_0), ((HB.out.cell (World.block_lt_of_cell? w _ hw346_1)).trans hw346_1), ((HB.out.cell (World.block_lt_of_cell? w _ hw347_0)).trans hw347_0)⟩ (fun hHeld => ?_); refine with_tabW sequiturref28_Lin.tab5 sequiturref28_Lin.bits5 (fun HT_ HW_ => ?_)
      generalize wr.drew = w11 at BK344 BK345 HB HR346_1 hx346_0 hx346_1 hx347_0 hHeld ⊢
      refine pure_ (i := 1) (N := some 24) (v := ?_) (a' := ?_) #[false, true, false, false, false, false, false, false, false, false, false, false] rfl rfl (any_of HT_.out (by kernel_rfl)) (fun _ _ _ h => h) (Or.inl ⟨by rfl, ?_⟩) ?_ ?_
      rotate_left
      ·intro w'
       go_simp
       with_reducible rfl
      rotate_left
      ·simp only [Act.put, List.setIfInBounds_toArray, List.set_cons_zero, List.set_cons_succ, i64_w, i32_w]
       rfl
      refine pure_ (i := 2) (N := some 25) (v := ?_) (a' := ?_) #[false, true, true, false, false, false, false, false, false, false, false, false] rfl rfl (any_of HT_.out (by kernel_rfl)) (fun _ _ _ h => h) (Or.inl ⟨by rfl, ?_⟩) ?_ ?_
      rotate_left
      ·intro w'
       go_simp
       with_reducible rfl
      rotate_left
      ·simp only [Act.put, List.setIfInBounds_toArray, List.set_cons_zero, List.set_cons_succ, i64_w, i32_w]
       rfl
      refine pure_ (i := 3) (N := some 26) (v := ?_) (a' := ?_) #[false, true, true, true, false, false, false, false, false, false, false, false] rfl rfl (any_of HT_.out (by kernel_rfl)) (fun _ _ _ h => h) (Or.inl ⟨by rfl, ?_⟩) ?_ ?_
      rotate_left
      ·intro w'
       go_simp
       with_reducible rfl
      rotate_left
      ·simp only [Act.put, List.setIfInBounds_toArray, List.set_cons_zero, List.set_cons_succ, i64_w, i32_w]
       rfl
      refine pure_ (i := 4) (N := some 27) (v := ?_) (a' := ?_) #[false, true, true, true, true, false, false, false, false, false, false, false] rfl rfl (any_of HT_.out (by kernel_rfl)) (fun _ _ _ h => h) (Or.inl ⟨by rfl, ?_⟩) ?_ ?_
      rotate_left
      ·intro w'
       go_simp
       with_reducible rfl
      rotate_left
      ·simp only [Act.put, List.setIfInBounds_toArray, List.set_cons_zero, List.set_cons_succ, i64_w, i32_w]
       rfl
      refine pure_ (i := 6) (N := some 29) (v := ?_) (a' := ?_) #[false, true, true, true, true, false, true, false, false, false, false, false] rfl rfl (any_of HT_.out (by kernel_rfl)) (fun _ _ _ h => h) (Or.inl ⟨by rfl, ?_⟩) ?_ ?_
      rotate_left
      ·intro w'
       go_simp
       with_reducible rfl
      rotate_left
      ·simp only [Act.put, List.setIfInBounds_toArray, List.set_cons_zero, List.set_cons_succ, i64_w, i32_w]
       rfl
      refine pure_ (i := 7) (N := some 30) (v := ?_) (a' := ?_) #[false, true, true, true, true, false, true, true, false, false, false, false] rfl rfl (any_of HT_.out (by kernel_rfl)) (fun _ _ _ h => h) (Or.inl ⟨by rfl, ?_⟩) ?_ ?_
      rotate_left
      ·intro w'
       go_simp
       with_reducible rfl
      rotate_left
      ·simp only [Act.put, List.setIfInBounds_toArray, List.set_cons_zero, List.set_cons_succ, i64_w, i32_w]
       rfl
      refine pure_ (i := 8) (N := some 31) (v := ?_) (a' := ?_) #[false, true, true, true, true, false, true, true, true, false, false, false] rfl rfl (any_of HT_.out (by kernel_rfl)) (fun _ _ _ h => h) (Or.inl ⟨by rfl, ?_⟩) ?_ ?_
      rotate_left
      ·intro w'
       go_simp
       with_reducible rfl
      rotate_left
      ·simp only [Act.put, List.setIfInBounds_toArray, List.set_cons_zero, List.set_cons_succ, i64_w, i32_w]
       rfl
      refine take_ (i := 0) (N := some 23) (v := ?_) (a' := ?_) #[true, true, true, true, true, false, true, true, true, false, false, false] rfl rfl (take_ofW HT_.out HW_.out (by kernel_rfl)) (fun _ _ _ h => h) (Or.inl ⟨by rfl, ?_⟩) hHeld ?_ ?_
      rotate_left
      ·rintro w' ⟨s0, s1, s2, s3, s4, s5⟩
       go_simp
       with_reducible rfl
      rotate_left
      ·simp only [Act.put, List.setIfInBounds_toArray, List.set_cons_zero, List.set_cons_succ, i64_w, i32_w]
       rfl
      refine take_ (i := 5) (N := some 28) (v := ?_) (a' := ?_) #[true, true, true, true, true, true, true, true, true, false, false, false] rfl rfl (take_ofW HT_.out HW_.out (by kernel_rfl)) (fun _ _ _ h => h) (Or.inl ⟨by rfl, ?_⟩) hHeld ?_ ?_
      rotate_left
      ·rintro w' ⟨s0, s1, s2, s3, s4, s5⟩
       go_simp
       with_reducible rfl
      rotate_left
      ·simp only [Act.put, List.setIfInBounds_toArray, List.set_cons_zero, List.set_cons_succ, i64_w, i32_w]
       rfl
      refine take_ (i := 9) (N := some 32) (v := ?_) (a' := ?_) #[true, true, true, true, true, true, true, true, true, true, false, false] rfl rfl (take_ofW HT_.out HW_.out (by kernel_rfl)) (fun _ _ _ h => h) (Or.inl ⟨by rfl, ?_⟩) hHeld ?_ ?_
      rotate_left
      ·rintro w' ⟨s0, s1, s2, s3, s4, s5⟩
       go_simp
       with_reducible rfl
      rotate_left
      ·simp only [Act.put, List.setIfInBounds_toArray, List.set_cons_zero, List.set_cons_succ, i64_w, i32_w]
       rfl
      refine one_ (i := 10) (N := some 33) #[true, true, true, true, true, true, true, true, true, true, true, false] rfl rfl (one_of HT_.out (by kernel_rfl)) (by decide) (fun K hK => ?_)
      refine goes_ Try.func51 (by kernel_rfl) rfl #[.agg #[.int .i64 x346000_1, .int .u64 x346001_1, .int .u64 x346002_1], .int .i64 ((rd_T28 l0 x7_1).f0), .int .i64 (rd l1 x7_1)] (by rfl) rfl rfl (by (try simp only [List.map_toArray, List.map_cons, List.map_nil]); first | done | rfl | (simp only [List.length_drop, List.length_take]; rfl)) ?_
      with_reducible refine (sequiturref28_More.calls k1 x346000_1 x346001_1 x346002_1 ((rd_T28 l0 x7_1).f0) (rd l1 x7_1) t348 t349 t350 _ A10.out).mono ?_
      rintro e w12 ⟨rfl, hb⟩
      refine ⟨_, rfl, ?_⟩
      replace BK344 := zK (blk_below (g := gb344) (o := .cells #[.int .i64 0, .slice none 0 0] 28 (0, 0)) (zb BK344) hb)
      replace BK345 := zK (blk_below (g := gb345) (o := .cells #[.int .i64 x346000_1, .int .u64 x346001_1, .int .u64 x346002_1] 76 (0, 0)) (zb BK345) hb)
      replace HB := zK (below_step (zo HB) hb)
      (try clear hb)
      (try clear hb2)
      (try clear hk)
      (try clear hi)
      refine hK.out _ _ ⟨(blk_cell BK345.out 0).trans rfl, (blk_cell BK345.out 1).trans rfl, (blk_cell BK345.out 2).trans rfl, ((HB.out.cell (World.block_lt_of_cell? w _ hw346_0)).trans hw346_0), ((HB.out.cell (World.block_lt_of_cell? w _ hw346_1)).trans hw346_1), ((HB.out.cell (World.block_lt_of_cell? w _ hw347_0)).trans hw347_0)⟩ (fun hHeld => ?_)
      clear hK K
      refine norm_ (a' := ?_) ?_ ?_
      rotate_left
      ·show Act.put _ (some 33) _ = _
       simp only [Act.put, List.setIfInBounds_toArray, List.set_cons_zero, List.set_cons_succ, i64_w, i32_w]
       rfl
      refine last_ (i := 11) (N := none) #[true, true, true, true, true, true, true, true, true, true, true, true] rfl rfl (one_of HT_.out (by kernel_rfl)) (by decide) (fun K hK => ?_)
      have hs13 : w12.cell? ⟨gb345, 0, none⟩ = some (.int .i64 x346000_1) := (blk_cell BK345.out 0).trans rfl
      have hfs13 := blk_frozen BK345.out 0
      have hns13_0 := NB344_345.out
      have hms13_0 := NB345_344.out
      have hs14 : w12.cell? ⟨gb345, 1, none⟩ = some (.int .u64 x346001_1) := (blk_cell BK345.out 1).trans rfl
      have hfs14 := blk_frozen BK345.out 1
      have hns14_0 := NB344_345.out
      have hms14_0 := NB345_344.out
      have hs15 : w12.cell? ⟨gb345, 2, none⟩ = some (.int .u64 x346002_1) := (blk_cell BK345.out 2).trans rfl
      have hfs15 := blk_frozen BK345.out 2
      have hns15_0 := NB344_345.out
      have hms15_0 := NB345_344.out
      refine skip_ (w1 := ?_) (by rfl) rfl ?_ ?_
      rotate_left
      ·go_simp
       rfl
      refine hK.out _ _ ?_
      clear hK K
      refine done_ (done_of HT_.out (by kernel_rfl)) ?_
      try go_wp2
      go_roundg k1
      case measure => have := HK1.out; omega
      case rel => exact ⟨(wrap64 (x7_1 + 1)), (t348), (t349), (t350), (by first | rfl | (simp; done) | (simp [*]; done)), H', ⟨by have := HK1.out; omega⟩, ⟨zb BK344⟩, ⟨by refine zM ?_; refine blk_put (cs := #[.int .i64 t348, .int .u64 t349, .int .u64 x346002_1]) ?_ 2 _ rfl; refine zM ?_; refine blk_put (cs := #[.int .i64 t348, .int .u64 x346001_1, .int .u64 x346002_1]) ?_ 1 _ rfl; refine zM ?_; refine blk_put (cs := #[.int .i64 x346000_1, .int .u64 x346001_1, .int .u64 x346002_1]) ?_ 0 _ rfl; refine zM ?_; exact BK345.out⟩, ⟨zo HB⟩⟩
     ·rw [if_neg c9] at H
      exact absurd H (by simp)
    ·rw [if_neg c8] at H
     exact absurd H (by simp)
   ·rw [if_neg c7] at H
    have c7b0 : decide (x7_1 < (l0.length : Int)) = false := decide_eq_false c7
    clear c7
    replace H := Option.bind_eq_some_iff.mp H
    obtain ⟨⟨t351, t352⟩, A160, H⟩ := H
    replace H : (sequiturref28_Lin.l1 k1 l0 l1 t352 0 t351 ([] : List (S47))) = some (r1, r2, r3) := H
    have A16 := zK A160
    clear A160
    have H' := zK H
    clear H
    have hnb17 := NB345_344.out
    have hnc17 := NB344_345.out
    have hcz18_0 : wr.cell? ⟨gb345, 0, none⟩ = some (.int .i64 x346000_1) := (blk_cell BK345.out 0).trans rfl
    have hcz18_1 : wr.cell? ⟨gb345, 1, none⟩ = some (.int .u64 x346001_1) := (blk_cell BK345.out 1).trans rfl
    have hcz18_2 : wr.cell? ⟨gb345, 2, none⟩ = some (.int .u64 x346002_1) := (blk_cell BK345.out 2).trans rfl
    have hfz18_0 := blk_frozen BK345.out 0
    have hfz18_1 := blk_frozen BK345.out 1
    have hfz18_2 := blk_frozen BK345.out 2
    go_wp2_with (first | ((with_reducible refine zC (f := 52) rfl ?_); refine goesL_ (some 36) rfl rfl Try.func52 (by kernel_rfl) rfl #[.agg #[.int .i64 x346000_1, .int .u64 x346001_1, .int .u64 x346002_1]] rfl (by (try simp only [List.map_toArray, List.map_cons, List.map_nil]); first | done | rfl | (simp only [List.length_drop, List.length_take]; rfl)) ?_; (with_reducible refine (sequiturref28_Fits.calls x346000_1 x346001_1 x346002_1 t351 t352 _ A16.out).mono ?_); rintro e w19 ⟨rfl, hb⟩; refine ⟨_, rfl, ?_⟩; replace BK344 := zK (blk_below (g := gb344) (o := .cells #[.int .i64 0, .slice none 0 0] 28 (0, 0)) (zb BK344) hb); replace BK345 := zK (blk_below (g := gb345) (o := .cells #[.int .i64 x346000_1, .int .u64 x346001_1, .int .u64 x346002_1] 76 (0, 0)) (zb BK345) hb); replace HB := zK (below_step (zo HB) hb); (try clear hb); (try clear hb2); (try clear hk); (try clear hi)) | ((with_reducible refine gate_dst (N := 10) rfl ?_); refine box_event ?hg (N := 10) ?hd (cs := #[.int .i64 0, .slice none 0 0]) (t := 28) ?hr ?_; (case hd => rfl); (case hg => rfl); (case hr => first | (go_simp; done) | (go_simp; rfl)); intro gb353 hg w20 hbox hb; have BK353 := zK (hbox); have GW353 := zK ((by rw [hg]; exact (below_size (zo HB)) : w.heap.size ≤ gb353)); have GE353 := zK ((by rw [hg]; exact (below_size (zo HB)) : w.heap.size ≤ gb353)); replace HB := zK (below_step (zo HB) hb); have NB344_353 := zK ((by rw [hg]; exact Nat.ne_of_lt (blk_lt (g := gb344) (o := .cells #[.int .i64 0, .slice none 0 0] 28 (0, 0)) (zb BK344)) : gb344 ≠ gb353)); have NB353_344 := zK ((by rw [hg]; exact Nat.ne_of_gt (blk_lt (g := gb344) (o := .cells #[.int .i64 0, .slice none 0 0] 28 (0, 0)) (zb BK344)) : gb353 ≠ gb344)); replace BK344 := zK (blk_below (g := gb344) (o := .cells #[.int .i64 0, .slice none 0 0] 28 (0, 0)) (zb BK344) hb); have NB345_353 := zK ((by rw [hg]; exact Nat.ne_of_lt (blk_lt (g := gb345) (o := .cells #[.int .i64 x346000_1, .int .u64 x346001_1, .int .u64 x346002_1] 76 (0, 0)) (zb BK345)) : gb345 ≠ gb353)); have NB353_345 := zK ((by rw [hg]; exact Nat.ne_of_gt (blk_lt (g := gb345) (o := .cells #[.int .i64 x346000_1, .int .u64 x346001_1, .int .u64 x346002_1] 76 (0, 0)) (zb BK345)) : gb353 ≠ gb345)); replace BK345 := zK (blk_below (g := gb345) (o := .cells #[.int .i64 x346000_1, .int .u64 x346001_1, .int .u64 x346002_1] 76 (0, 0)) (zb BK345) hb); clear hb hbox hg; have hnb21 := NB353_344.out; have hnc21 := NB344_353.out; have hnb22 := NB353_345.out; have hnc22 := NB345_353.out; have hcz23_0 : w20.cell? ⟨gb353, 0, none⟩ = some (.int .i64 0) := (blk_cell BK353.out 0).trans rfl; have hcz23_1 : w20.cell? ⟨gb353, 1, none⟩ = some (.slice none 0 0) := (blk_cell BK353.out 1).trans rfl; have hfz23_0 := blk_frozen BK353.out 0; have hfz23_1 := blk_frozen BK353.out 1))
    go_loopg [9, 11] k1 (fun kq v9 v11 w' => ∃ (x9_2 : Bool) (x11_2 : Int) (x354001_2 : List (S47)) (u354001 : Value), v9 = .bool x9_2 ∧ v11 = .int .i64 x11_2 ∧ Aside0 (sequiturref28_Lin.l1 kq l0 l1 x9_2 x11_2 t351 x354001_2 = some (r1, r2, r3)) ∧ Aside0 (kq ≤ k1) ∧ Aside0 (Kd.R k47 47 w' w.heap.size (fun _ => True) u354001 x354001_2) ∧ Aside0 (w'.heap[gb344]? = some (.cells #[.int .i64 0, (.slice none 0 0)] 28 (0, 0))) ∧ Aside0 (w'.heap[gb345]? = some (.cells #[.int .i64 x346000_1, .int .u64 x346001_1, .int .u64 x346002_1] 76 (0, 0))) ∧ Aside0 (w'.heap[gb353]? = some (.cells #[.int .i64 t351, u354001] 28 (0, 0))) ∧ Aside0 (Below w.heap.size w w'))
    case atStart => exact ⟨(t352), (0), (([] : List (S47))), (.slice none 0 0), (by first | rfl | (simp; done) | (simp [*]; done)), (by first | rfl | (simp; done) | (simp [*]; done)), H', ⟨Nat.le_refl _⟩, ⟨by first | exact Kd.R_nil _ _ _ _ _ | exact Kd.N_nil _ _ _ _ _ | exact Kd.V_nil _ _ _ _ _ | exact Kd.Q_nil _ _ _ _ _ | exact Kd.S_nil _ _ _ _ _⟩, ⟨zb BK344⟩, ⟨zb BK345⟩, ⟨by refine zM ?_; refine blk_put (cs := #[.int .i64 t351, .slice none 0 0]) ?_ 1 _ rfl; refine zM ?_; refine blk_put (cs := #[.int .i64 0, .slice none 0 0]) ?_ 0 _ rfl; refine zM ?_; exact BK353.out⟩, ⟨zo HB⟩⟩
    case round =>
     clear H'
     try clear c1
     try clear c2
     try clear p2
     try clear c3
     try clear p3
     try clear q3
     try clear hx3
     try clear c5
     try clear p6
     try clear c7
     try clear c7b0
     try clear c8
     try clear c8b0
     try clear c9
     try clear c9b0
     try clear c17
     try clear c21
     try clear c22
     try clear hcz18_0
     try clear hcz18_1
     try clear hcz18_2
     try clear hcz23_0
     try clear hcz23_1
     try clear hcz6_0
     try clear hcz6_1
     try clear hcz6_2
     try clear hfz18_0
     try clear hfz18_1
     try clear hfz18_2
     try clear hfz23_0
     try clear hfz23_1
     try clear hfz6_0
     try clear hfz6_1
     try clear hfz6_2
     try clear hx346_0
     try clear hx346_1
     try clear hx347_0
     try clear p2
     try clear p346
     try clear p347
     try clear q346
     try clear q347
     obtain ⟨x9_2, x11_2, x354001_2, u354001, rfl, rfl, HA, HK2, HO_354001, BK344, BK345, BK353, HB⟩ := hrel
     cases gk with
     | zero => exact absurd HA.out (by simp [sequiturref28_Lin.l1])
     | succ k2 =>
      have H := HA.out
      clear HA
      simp only [sequiturref28_Lin.l1] at H
      by_cases c24 : x11_2 < 64
      ·rw [if_pos c24] at H
       have c24b0 : decide (x11_2 < 64) = true := decide_eq_true c24
       clear c24
       have H' := zK H
       clear H
       go_wp2_with (first | ((with_reducible refine gate_dst (N := 12) rfl ?_); refine box_event ?hg (N := 12) ?hd (cs := #[.int .i64 0, .int .u64 0, .int .u64 0]) (t := 76) ?hr ?_; (case hd => rfl); (case hg => rfl); (case hr => first | (go_simp; done) | (go_simp; rfl)); intro gb354 hg w25 hbox hb; replace HO_354001 := zK (Kd.R_below (zr HO_354001) hb); have BK354 := zK (hbox); have GW354 := zK ((by rw [hg]; exact (below_size (zo HB)) : w.heap.size ≤ gb354)); have GE354 := zK ((by rw [hg]; exact (below_size (zo HB)) : w.heap.size ≤ gb354)); replace HB := zK (below_step (zo HB) hb); have NB344_354 := zK ((by rw [hg]; exact Nat.ne_of_lt (blk_lt (g := gb344) (o := .cells #[.int .i64 0, .slice none 0 0] 28 (0, 0)) (zb BK344)) : gb344 ≠ gb354)); have NB354_344 := zK ((by rw [hg]; exact Nat.ne_of_gt (blk_lt (g := gb344) (o := .cells #[.int .i64 0, .slice none 0 0] 28 (0, 0)) (zb BK344)) : gb354 ≠ gb344)); replace BK344 := zK (blk_below (g := gb344) (o := .cells #[.int .i64 0, .slice none 0 0] 28 (0, 0)) (zb BK344) hb); have NB345_354 := zK ((by rw [hg]; exact Nat.ne_of_lt (blk_lt (g := gb345) (o := .cells #[.int .i64 x346000_1, .int .u64 x346001_1, .int .u64 x346002_1] 76 (0, 0)) (zb BK345)) : gb345 ≠ gb354)); have NB354_345 := zK ((by rw [hg]; exact Nat.ne_of_gt (blk_lt (g := gb345) (o := .cells #[.int .i64 x346000_1, .int .u64 x346001_1, .int .u64 x346002_1] 76 (0, 0)) (zb BK345)) : gb354 ≠ gb345)); replace BK345 := zK (blk_below (g := gb345) (o := .cells #[.int .i64 x346000_1, .int .u64 x346001_1, .int .u64 x346002_1] 76 (0, 0)) (zb BK345) hb); have NB353_354 := zK ((by rw [hg]; exact Nat.ne_of_lt (blk_lt (g := gb353) (o := .cells #[.int .i64 t351, u354001] 28 (0, 0)) (zb BK353)) : gb353 ≠ gb354)); have NB354_353 := zK ((by rw [hg]; exact Nat.ne_of_gt (blk_lt (g := gb353) (o := .cells #[.int .i64 t351, u354001] 28 (0, 0)) (zb BK353)) : gb354 ≠ gb353)); replace BK353 := zK (blk_below (g := gb353) (o := .cells #[.int .i64 t351, u354001] 28 (0, 0)) (zb BK353) hb); clear hb hbox hg; have hnb26 := NB354_344.out; have hnc26 := NB344_354.out; have hnb27 := NB354_345.out; have hnc27 := NB345_354.out; have hnb28 := NB354_353.out; have hnc28 := NB353_354.out; have hcz29_0 : w25.cell? ⟨gb354, 0, none⟩ = some (.int .i64 0) := (blk_cell BK354.out 0).trans rfl; have hcz29_1 : w25.cell? ⟨gb354, 1, none⟩ = some (.int .u64 0) := (blk_cell BK354.out 1).trans rfl; have hcz29_2 : w25.cell? ⟨gb354, 2, none⟩ = some (.int .u64 0) := (blk_cell BK354.out 2).trans rfl; have hfz29_0 := blk_frozen BK354.out 0; have hfz29_1 := blk_frozen BK354.out 1; have hfz29_2 := blk_frozen BK354.out 2))
       go_loopg [13] k2 (fun kq v13 w' => ∃ (x13_3 : Int) (x355000_3 : Int) (x355001_3 : Int) (x355002_3 : Int), v13 = .int .i64 x13_3 ∧ Aside0 (sequiturref28_Lin.l2 kq l0 l1 x9_2 x11_2 x13_3 t351 x354001_2 x355000_3 x355001_3 x355002_3 = some (r1, r2, r3)) ∧ Aside0 (kq ≤ k2) ∧ Aside0 (Kd.R k47 47 w' w.heap.size (fun _ => True) u354001 x354001_2) ∧ Aside0 (w'.heap[gb344]? = some (.cells #[.int .i64 0, (.slice none 0 0)] 28 (0, 0))) ∧ Aside0 (w'.heap[gb345]? = some (.cells #[.int .i64 x346000_1, .int .u64 x346001_1, .int .u64 x346002_1] 76 (0, 0))) ∧ Aside0 (w'.heap[gb353]? = some (.cells #[.int .i64 t351, u354001] 28 (0, 0))) ∧ Aside0 (w'.heap[gb354]? = some (.cells #[.int .i64 x355000_3, .int .u64 x355001_3, .int .u64 x355002_3] 76 (0, 0))) ∧ Aside0 (Below w.heap.size w w'))
       case atStart => exact ⟨(0), (0), (0), (0), (by first | rfl | (simp; done) | (simp [*]; done)), H', ⟨Nat.le_refl _⟩, ⟨by (with_reducible repeat (first | apply Kd.R_alloc | apply Kd.R_drewN | apply Kd.R_drew)); exact Kd.R_mono (Kd.R_far (p := ⟨gb354, 2, none⟩) (Kd.R_far (p := ⟨gb354, 1, none⟩) (Kd.R_far (p := ⟨gb354, 0, none⟩) (Kd.R_types HO_354001.out BK354.out (by decide)) (fun _ hk => hk.2) (.int .i64 0)) (fun _ hk => hk.2) (.int .u64 0)) (fun _ hk => hk.2) (.int .u64 0)) (fun _ hk => trivial)⟩, ⟨zb BK344⟩, ⟨zb BK345⟩, ⟨zb BK353⟩, ⟨by refine zM ?_; refine blk_put (cs := #[.int .i64 0, .int .u64 0, .int .u64 0]) ?_ 2 _ rfl; refine zM ?_; refine blk_put (cs := #[.int .i64 0, .int .u64 0, .int .u64 0]) ?_ 1 _ rfl; refine zM ?_; refine blk_put (cs := #[.int .i64 0, .int .u64 0, .int .u64 0]) ?_ 0 _ rfl; refine zM ?_; exact BK354.out⟩, ⟨zo HB⟩⟩
       case round =>
        clear H'
        try clear c1
        try clear c2
        try clear p2
        try clear c3
        try clear p3
        try clear q3
        try clear hx3
        try clear c5
        try clear p6
        try clear c7
        try clear c7b0
        try clear c8
        try clear c8b0
        try clear c9
        try clear c9b0
        try clear c17
        try clear c21
        try clear c22
        try clear c24
        try clear c24b0
        try clear c26
        try clear c27
        try clear c28
        try clear hcz18_0
        try clear hcz18_1
        try clear hcz18_2
        try clear hcz23_0
        try clear hcz23_1
        try clear hcz29_0
        try clear hcz29_1
        try clear hcz29_2
        try clear hcz6_0
        try clear hcz6_1
        try clear hcz6_2
        try clear hfz18_0
        try clear hfz18_1
        try clear hfz18_2
        try clear hfz23_0
        try clear hfz23_1
        try clear hfz29_0
        try clear hfz29_1
        try clear hfz29_2
        try clear hfz6_0
        try clear hfz6_1
        try clear hfz6_2
        try clear hx346_0
        try clear hx346_1
        try clear hx347_0
        try clear p2
        try clear p3
        try clear p346
        try clear p347
        try clear p6
        try clear q3
        try clear q346
        try clear q347
        obtain ⟨x13_3, x355000_3, x355001_3, x355002_3, rfl, HA, HK3, HO_354001, BK344, BK345, BK353, BK354, HB⟩ := hrel
        cases gk with
        | zero => exact absurd HA.out (by simp [sequiturref28_Lin.l2])
        | succ k3 =>
         have H := HA.out
         clear HA
         simp only [sequiturref28_Lin.l2] at H
         by_cases c30 : x13_3 < (l0.length : Int)
         ·rw [if_pos c30] at H
          have c30b0 : decide (x13_3 < (l0.length : Int)) = true := decide_eq_true c30
          clear c30
          by_cases c31 : 0 ≤ x13_3
          ·rw [if_pos c31] at H
           have c31b0 : decide (0 ≤ x13_3) = true := decide_eq_true c31
           clear c31
           replace H := Option.bind_eq_some_iff.mp H
           obtain ⟨t356, A320, H⟩ := H
           replace H : (if x13_3 < (l1.length : Int) then ((sequiturref28_More.f k3 x355000_3 x355001_3 x355002_3 t356 (rd l1 x13_3)).bind fun bt358 => (sequiturref28_Lin.l2 k3 l0 l1 x9_2 x11_2 (wrap64 (x13_3 + 1)) t351 x354001_2 bt358.1 bt358.2.1 bt358.2.2)) else (none)) = some (r1, r2, r3) := H
           have A32 := zK A320
           clear A320
           by_cases c33 : x13_3 < (l1.length : Int)
           ·rw [if_pos c33] at H
            have c33b0 : decide (x13_3 < (l1.length : Int)) = true := decide_eq_true c33
            clear c33
            replace H := Option.bind_eq_some_iff.mp H
            obtain ⟨⟨t358, t359, t360⟩, A340, H⟩ := H
            replace H : (sequiturref28_Lin.l2 k3 l0 l1 x9_2 x11_2 (wrap64 (x13_3 + 1)) t351 x354001_2 t358 t359 t360) = some (r1, r2, r3) := H
            have A34 := zK A340
            clear A340
            have H' := zK H
            clear H
            try go_wp2
            replace HO_354001 := zK (Kd.R_drew HO_354001.out)
            replace BK344 := zK (zD BK344.out)
            replace BK345 := zK (zD BK345.out)
            replace BK353 := zK (zD BK353.out)
            replace BK354 := zK (zD BK354.out)
            replace HB := zK (yD HB.out)
            have p355 : 0 ≤ (x13_3 : Int) := of_decide_eq_true (by first | (with_reducible assumption) | assumption)
            have q355 : x13_3 < (l0.length : Int) := of_decide_eq_true (by first | (with_reducible assumption) | assumption)
            obtain ⟨ad355, A355_1, c355_1, e355, hx355_0, hx355_1, hl355_1, hi355_1⟩ := at_T28 HR0.out x13_3 p355 q355
            have hw355_1 := hx355_1
            have hw355_0 := hx355_0
            cases e355
            replace hx355_0 := (HB.out.cell (World.block_lt_of_cell? w _ hx355_0)).trans hx355_0
            replace hx355_1 := (HB.out.cell (World.block_lt_of_cell? w _ hx355_1)).trans hx355_1
            have HR355_1 := zK hi355_1
            have HC355_1 := zK hl355_1
            clear hi355_1 hl355_1
            replace p355 := eq_true p355
            replace q355 := eq_true q355
            have p357 : 0 ≤ (x13_3 : Int) := of_decide_eq_true (by first | (with_reducible assumption) | assumption)
            have q357 : x13_3 < (l1.length : Int) := of_decide_eq_true (by first | (with_reducible assumption) | assumption)
            obtain ⟨ad357, e357, hx357_0⟩ := Kd.at_int HR1.out x13_3 p357 q357
            have hw357_0 := hx357_0
            cases e357
            replace hx357_0 := (HB.out.cell (World.block_lt_of_cell? w _ hx357_0)).trans hx357_0
            replace p357 := eq_true p357
            replace q357 := eq_true q357
            refine start_ (n := 13) (S := fun w' => w'.cell? ⟨gb354, 0, none⟩ = some (.int .i64 x355000_3) ∧ w'.cell? ⟨gb354, 1, none⟩ = some (.int .u64 x355001_3) ∧ w'.cell? ⟨gb354, 2, none⟩ = some (.int .u64 x355002_3) ∧ w'.cell? (ad355.add ((x13_3).toNat * 2)) = some (.int .i64 ((rd_T28 l0 x13_3).f0)) ∧ w'.cell? ⟨(ad355.add ((x13_3).toNat * 2)).block, (ad355.add ((x13_3).toNat * 2)).off + 1, none⟩ = some (.slice A355_1 ((rd_T28 l0 x13_3).f1).length c355_1) ∧ w'.cell? (ad357.add (x13_3).toNat) = some (.int .i64 (rd l1 x13_3))) (ds := [12]) #[false, false, false, false, false, false, false, false, false, false, false, false, false] (by kernel_rfl) rfl rfl ⟨(blk_cell BK354.out 0).trans rfl, (blk_cell BK354.out 1).trans rfl, (blk_cell BK354.out 2).trans rfl, ((HB.out.cell (World.block_lt_of_cell? w _ hw355_0)).trans hw355_0), ((HB.out.cell (World.block_lt_of_cell? w _ hw355_1)).trans hw355_1), ((HB.out.cell (World.block_lt_of_cell? w _ hw357_0)).trans hw357_0)⟩ (fun hHeld => ?_); refine with_tabW sequiturref28_Lin.tab15 sequiturref28_Lin.bits15 (fun HT_ HW_ => ?_)
            generalize wr.drew = w35 at HO_354001 BK344 BK345 BK353 BK354 HB HR355_1 hx355_0 hx355_1 hx357_0 hHeld ⊢
            refine pure_ (i := 1) (N := some 53) (v := ?_) (a' := ?_) #[false, true, false, false, false, false, false, false, false, false, false, false, false] rfl rfl (any_of HT_.out (by kernel_rfl)) (fun _ _ _ h => h) (Or.inl ⟨by rfl, ?_⟩) ?_ ?_
            rotate_left
            ·intro w'
             go_simp
             with_reducible rfl
            rotate_left
            ·simp only [Act.put, List.setIfInBounds_toArray, List.set_cons_zero, List.set_cons_succ, i64_w, i32_w]
             rfl
            refine pure_ (i := 2) (N := some 54) (v := ?_) (a' := ?_) #[false, true, true, false, false, false, false, false, false, false, false, false, false] rfl rfl (any_of HT_.out (by kernel_rfl)) (fun _ _ _ h => h) (Or.inl ⟨by rfl, ?_⟩) ?_ ?_
            rotate_left
            ·intro w'
             go_simp
             with_reducible rfl
            rotate_left
            ·simp only [Act.put, List.setIfInBounds_toArray, List.set_cons_zero, List.set_cons_succ, i64_w, i32_w]
             rfl
            refine pure_ (i := 3) (N := some 55) (v := ?_) (a' := ?_) #[false, true, true, true, false, false, false, false, false, false, false, false, false] rfl rfl (any_of HT_.out (by kernel_rfl)) (fun _ _ _ h => h) (Or.inl ⟨by rfl, ?_⟩) ?_ ?_
            rotate_left
            ·intro w'
             go_simp
             with_reducible rfl
            rotate_left
            ·simp only [Act.put, List.setIfInBounds_toArray, List.set_cons_zero, List.set_cons_succ, i64_w, i32_w]
             rfl
            refine pure_ (i := 5) (N := some 57) (v := ?_) (a' := ?_) #[false, true, true, true, false, true, false, false, false, false, false, false, false] rfl rfl (any_of HT_.out (by kernel_rfl)) (fun _ _ _ h => h) (Or.inl ⟨by rfl, ?_⟩) ?_ ?_
            rotate_left
            ·intro w'
             go_simp
             with_reducible rfl
            rotate_left
            ·simp only [Act.put, List.setIfInBounds_toArray, List.set_cons_zero, List.set_cons_succ, i64_w, i32_w]
             rfl
            refine pure_ (i := 7) (N := some 59) (v := ?_) (a' := ?_) #[false, true, true, true, false, true, false, true, false, false, false, false, false] rfl rfl (any_of HT_.out (by kernel_rfl)) (fun _ _ _ h => h) (Or.inl ⟨by rfl, ?_⟩) ?_ ?_
            rotate_left
            ·intro w'
             go_simp
             with_reducible rfl
            rotate_left
            ·simp only [Act.put, List.setIfInBounds_toArray, List.set_cons_zero, List.set_cons_succ, i64_w, i32_w]
             rfl
            refine pure_ (i := 8) (N := some 60) (v := ?_) (a' := ?_) #[false, true, true, true, false, true, false, true, true, false, false, false, false] rfl rfl (any_of HT_.out (by kernel_rfl)) (fun _ _ _ h => h) (Or.inl ⟨by rfl, ?_⟩) ?_ ?_
            rotate_left
            ·intro w'
             go_simp
             with_reducible rfl
            rotate_left
            ·simp only [Act.put, List.setIfInBounds_toArray, List.set_cons_zero, List.set_cons_succ, i64_w, i32_w]
             rfl
            refine pure_ (i := 9) (N := some 61) (v := ?_) (a' := ?_) #[false, true, true, true, false, true, false, true, true, true, false, false, false] rfl rfl (any_of HT_.out (by kernel_rfl)) (fun _ _ _ h => h) (Or.inl ⟨by rfl, ?_⟩) ?_ ?_
            rotate_left
            ·intro w'
             go_simp
             with_reducible rfl
            rotate_left
            ·simp only [Act.put, List.setIfInBounds_toArray, List.set_cons_zero, List.set_cons_succ, i64_w, i32_w]
             rfl
            refine take_ (i := 0) (N := some 52) (v := ?_) (a' := ?_) #[true, true, true, true, false, true, false, true, true, true, false, false, false] rfl rfl (take_ofW HT_.out HW_.out (by kernel_rfl)) (fun _ _ _ h => h) (Or.inl ⟨by rfl, ?_⟩) hHeld ?_ ?_
            rotate_left
            ·rintro w' ⟨s0, s1, s2, s3, s4, s5⟩
             go_simp
             with_reducible rfl
            rotate_left
            ·simp only [Act.put, List.setIfInBounds_toArray, List.set_cons_zero, List.set_cons_succ, i64_w, i32_w]
             rfl
            refine take_ (i := 4) (N := some 56) (v := ?_) (a' := ?_) #[true, true, true, true, true, true, false, true, true, true, false, false, false] rfl rfl (take_ofW HT_.out HW_.out (by kernel_rfl)) (fun _ _ _ h => h) (Or.inl ⟨by rfl, ?_⟩) hHeld ?_ ?_
            rotate_left
            ·rintro w' ⟨s0, s1, s2, s3, s4, s5⟩
             go_simp
             with_reducible rfl
            rotate_left
            ·simp only [Act.put, List.setIfInBounds_toArray, List.set_cons_zero, List.set_cons_succ, i64_w, i32_w]
             rfl
            refine take_ (i := 10) (N := some 62) (v := ?_) (a' := ?_) #[true, true, true, true, true, true, false, true, true, true, true, false, false] rfl rfl (take_ofW HT_.out HW_.out (by kernel_rfl)) (fun _ _ _ h => h) (Or.inl ⟨by rfl, ?_⟩) hHeld ?_ ?_
            rotate_left
            ·rintro w' ⟨s0, s1, s2, s3, s4, s5⟩
             go_simp
             with_reducible rfl
            rotate_left
            ·simp only [Act.put, List.setIfInBounds_toArray, List.set_cons_zero, List.set_cons_succ, i64_w, i32_w]
             rfl
            refine one_ (i := 6) (N := some 58) #[true, true, true, true, true, true, true, true, true, true, true, false, false] rfl rfl (one_of HT_.out (by kernel_rfl)) (by decide) (fun K hK => ?_)
            refine goes_ Try.func53 (by kernel_rfl) rfl #[.agg #[.int .i64 ((rd_T28 l0 x13_3).f0), .slice A355_1 ((rd_T28 l0 x13_3).f1).length c355_1], .int .i64 x11_2] (by rfl) rfl rfl (by (try simp only [List.map_toArray, List.map_cons, List.map_nil]); first | done | rfl | (simp only [List.length_drop, List.length_take]; rfl)) ?_
            with_reducible refine (sequiturref28_By.calls k3 ((rd_T28 l0 x13_3).f0) _ _ ((rd_T28 l0 x13_3).f1) x11_2 t356 _ ?side1 ?side2 A32.out).mono ?_
            (case side1 => repeat (first | exact (Kd.C_below HR355_1.out HB.out) | (with_reducible refine cA ?_ _) | (with_reducible refine cN ?_ _) | (with_reducible refine cD ?_)))
            (case side2 => exact HC355_1.out)
            rintro e w36 ⟨rfl, hb⟩
            refine ⟨_, rfl, ?_⟩
            replace HO_354001 := zK (Kd.R_below (zr HO_354001) hb)
            replace BK344 := zK (blk_below (g := gb344) (o := .cells #[.int .i64 0, .slice none 0 0] 28 (0, 0)) (zb BK344) hb)
            replace BK345 := zK (blk_below (g := gb345) (o := .cells #[.int .i64 x346000_1, .int .u64 x346001_1, .int .u64 x346002_1] 76 (0, 0)) (zb BK345) hb)
            replace BK353 := zK (blk_below (g := gb353) (o := .cells #[.int .i64 t351, u354001] 28 (0, 0)) (zb BK353) hb)
            replace BK354 := zK (blk_below (g := gb354) (o := .cells #[.int .i64 x355000_3, .int .u64 x355001_3, .int .u64 x355002_3] 76 (0, 0)) (zb BK354) hb)
            replace HB := zK (below_step (zo HB) hb)
            (try clear hb)
            (try clear hb2)
            (try clear hk)
            (try clear hi)
            refine hK.out _ _ ⟨(blk_cell BK354.out 0).trans rfl, (blk_cell BK354.out 1).trans rfl, (blk_cell BK354.out 2).trans rfl, ((HB.out.cell (World.block_lt_of_cell? w _ hw355_0)).trans hw355_0), ((HB.out.cell (World.block_lt_of_cell? w _ hw355_1)).trans hw355_1), ((HB.out.cell (World.block_lt_of_cell? w _ hw357_0)).trans hw357_0)⟩ (fun hHeld => ?_)
            clear hK K
            refine norm_ (a' := ?_) ?_ ?_
            rotate_left
            ·show Act.put _ (some 58) _ = _
             simp only [Act.put, List.setIfInBounds_toArray, List.set_cons_zero, List.set_cons_succ, i64_w, i32_w]
             rfl
            refine one_ (i := 11) (N := some 63) #[true, true, true, true, true, true, true, true, true, true, true, true, false] rfl rfl (one_of HT_.out (by kernel_rfl)) (by decide) (fun K hK => ?_)
            refine goes_ Try.func51 (by kernel_rfl) rfl #[.agg #[.int .i64 x355000_3, .int .u64 x355001_3, .int .u64 x355002_3], .int .i64 t356, .int .i64 (rd l1 x13_3)] (by rfl) rfl rfl (by (try simp only [List.map_toArray, List.map_cons, List.map_nil]); first | done | rfl | (simp only [List.length_drop, List.length_take]; rfl)) ?_
            with_reducible refine (sequiturref28_More.calls k3 x355000_3 x355001_3 x355002_3 t356 (rd l1 x13_3) t358 t359 t360 _ A34.out).mono ?_
            rintro e w37 ⟨rfl, hb⟩
            refine ⟨_, rfl, ?_⟩
            replace HO_354001 := zK (Kd.R_below (zr HO_354001) hb)
            replace BK344 := zK (blk_below (g := gb344) (o := .cells #[.int .i64 0, .slice none 0 0] 28 (0, 0)) (zb BK344) hb)
            replace BK345 := zK (blk_below (g := gb345) (o := .cells #[.int .i64 x346000_1, .int .u64 x346001_1, .int .u64 x346002_1] 76 (0, 0)) (zb BK345) hb)
            replace BK353 := zK (blk_below (g := gb353) (o := .cells #[.int .i64 t351, u354001] 28 (0, 0)) (zb BK353) hb)
            replace BK354 := zK (blk_below (g := gb354) (o := .cells #[.int .i64 x355000_3, .int .u64 x355001_3, .int .u64 x355002_3] 76 (0, 0)) (zb BK354) hb)
            replace HB := zK (below_step (zo HB) hb)
            (try clear hb)
            (try clear hb2)
            (try clear hk)
            (try clear hi)
            refine hK.out _ _ ⟨(blk_cell BK354.out 0).trans rfl, (blk_cell BK354.out 1).trans rfl, (blk_cell BK354.out 2).trans rfl, ((HB.out.cell (World.block_lt_of_cell? w _ hw355_0)).trans hw355_0), ((HB.out.cell (World.block_lt_of_cell? w _ hw355_1)).trans hw355_1), ((HB.out.cell (World.block_lt_of_cell? w _ hw357_0)).trans hw357_0)⟩ (fun hHeld => ?_)
            clear hK K
            refine norm_ (a' := ?_) ?_ ?_
            rotate_left
            ·show Act.put _ (some 63) _ = _
             simp only [Act.put, List.setIfInBounds_toArray, List.set_cons_zero, List.set_cons_succ, i64_w, i32_w]
             rfl
            refine last_ (i := 12) (N := none) #[true, true, true, true, true, true, true, true, true, true, true, true, true] rfl rfl (one_of HT_.out (by kernel_rfl)) (by decide) (fun K hK => ?_)
            have hs38 : w37.cell? ⟨gb354, 0, none⟩ = some (.int .i64 x355000_3) := (blk_cell BK354.out 0).trans rfl
            have hfs38 := blk_frozen BK354.out 0
            have hns38_0 := NB344_354.out
            have hns38_1 := NB345_354.out
            have hns38_2 := NB353_354.out
            have hms38_0 := NB354_344.out
            have hms38_1 := NB354_345.out
            have hms38_2 := NB354_353.out
            have hs39 : w37.cell? ⟨gb354, 1, none⟩ = some (.int .u64 x355001_3) := (blk_cell BK354.out 1).trans rfl
            have hfs39 := blk_frozen BK354.out 1
            have hns39_0 := NB344_354.out
            have hns39_1 := NB345_354.out
            have hns39_2 := NB353_354.out
            have hms39_0 := NB354_344.out
            have hms39_1 := NB354_345.out
            have hms39_2 := NB354_353.out
            have hs40 : w37.cell? ⟨gb354, 2, none⟩ = some (.int .u64 x355002_3) := (blk_cell BK354.out 2).trans rfl
            have hfs40 := blk_frozen BK354.out 2
            have hns40_0 := NB344_354.out
            have hns40_1 := NB345_354.out
            have hns40_2 := NB353_354.out
            have hms40_0 := NB354_344.out
            have hms40_1 := NB354_345.out
            have hms40_2 := NB354_353.out
            refine skip_ (w1 := ?_) (by rfl) rfl ?_ ?_
            rotate_left
            ·go_simp
             rfl
            refine hK.out _ _ ?_
            clear hK K
            refine done_ (done_of HT_.out (by kernel_rfl)) ?_
            try go_wp2
            go_roundg k3
            case measure => have := HK1.out; have := HK2.out; have := HK3.out; omega
            case rel => exact ⟨(wrap64 (x13_3 + 1)), (t358), (t359), (t360), (by first | rfl | (simp; done) | (simp [*]; done)), H', ⟨by have := HK1.out; have := HK2.out; have := HK3.out; omega⟩, ⟨by (with_reducible repeat (first | apply Kd.R_alloc | apply Kd.R_drewN | apply Kd.R_drew)); exact Kd.R_mono (Kd.R_far (p := ⟨gb354, 2, none⟩) (Kd.R_far (p := ⟨gb354, 1, none⟩) (Kd.R_far (p := ⟨gb354, 0, none⟩) (Kd.R_types HO_354001.out BK354.out (by decide)) (fun _ hk => hk.2) (.int .i64 t358)) (fun _ hk => hk.2) (.int .u64 t359)) (fun _ hk => hk.2) (.int .u64 t360)) (fun _ hk => trivial)⟩, ⟨zb BK344⟩, ⟨zb BK345⟩, ⟨zb BK353⟩, ⟨by refine zM ?_; refine blk_put (cs := #[.int .i64 t358, .int .u64 t359, .int .u64 x355002_3]) ?_ 2 _ rfl; refine zM ?_; refine blk_put (cs := #[.int .i64 t358, .int .u64 x355001_3, .int .u64 x355002_3]) ?_ 1 _ rfl; refine zM ?_; refine blk_put (cs := #[.int .i64 x355000_3, .int .u64 x355001_3, .int .u64 x355002_3]) ?_ 0 _ rfl; refine zM ?_; exact BK354.out⟩, ⟨zo HB⟩⟩
           ·rw [if_neg c33] at H
            exact absurd H (by simp)
          ·rw [if_neg c31] at H
           exact absurd H (by simp)
         ·rw [if_neg c30] at H
          have c30b0 : decide (x13_3 < (l0.length : Int)) = false := decide_eq_false c30
          clear c30
          replace H := Option.bind_eq_some_iff.mp H
          obtain ⟨⟨t361, t362⟩, A410, H⟩ := H
          replace H : (if x9_2 = true then (if t361 = 0 then (sequiturref28_Lin.l1 k3 l0 l1 t362 (wrap64 (x11_2 + 1)) t351 x354001_2) else (if x354001_2.length < 8796093022208 then (sequiturref28_Lin.l1 k3 l0 l1 t362 (wrap64 (x11_2 + 1)) t351 (x354001_2 ++ [(⟨x11_2, t361⟩ : S47)])) else (none))) else (if t361 = 0 then (sequiturref28_Lin.l1 k3 l0 l1 false (wrap64 (x11_2 + 1)) t351 x354001_2) else (if x354001_2.length < 8796093022208 then (sequiturref28_Lin.l1 k3 l0 l1 false (wrap64 (x11_2 + 1)) t351 (x354001_2 ++ [(⟨x11_2, t361⟩ : S47)])) else (none)))) = some (r1, r2, r3) := H
          have A41 := zK A410
          clear A410
          by_cases c42 : x9_2 = true
          ·subst c42
           have H1 : (if t361 = 0 then (sequiturref28_Lin.l1 k3 l0 l1 t362 (wrap64 (x11_2 + 1)) t351 x354001_2) else (if x354001_2.length < 8796093022208 then (sequiturref28_Lin.l1 k3 l0 l1 t362 (wrap64 (x11_2 + 1)) t351 (x354001_2 ++ [(⟨x11_2, t361⟩ : S47)])) else (none))) = some (r1, r2, r3) := by rw [if_pos rfl] at H; exact H
           clear H
           have H := H1
           clear H1
           by_cases c43 : t361 = 0
           ·rw [if_pos c43] at H
            have c43b0 : (t361 == 0) = true := beq_iff_eq.mpr c43
            have c43b1 : (t361 != 0) = false := bne_eq_false_iff_eq.mpr c43
            clear c43
            have H' := zK H
            clear H
            have hnb44 := NB354_344.out
            have hnc44 := NB344_354.out
            have hnb45 := NB354_345.out
            have hnc45 := NB345_354.out
            have hnb46 := NB354_353.out
            have hnc46 := NB353_354.out
            have hcz47_0 : wr.cell? ⟨gb354, 0, none⟩ = some (.int .i64 x355000_3) := (blk_cell BK354.out 0).trans rfl
            have hcz47_1 : wr.cell? ⟨gb354, 1, none⟩ = some (.int .u64 x355001_3) := (blk_cell BK354.out 1).trans rfl
            have hcz47_2 : wr.cell? ⟨gb354, 2, none⟩ = some (.int .u64 x355002_3) := (blk_cell BK354.out 2).trans rfl
            have hfz47_0 := blk_frozen BK354.out 0
            have hfz47_1 := blk_frozen BK354.out 1
            have hfz47_2 := blk_frozen BK354.out 2
            go_wp2_with (first | ((with_reducible refine zC (f := 52) rfl ?_); refine goesL_ (some 66) rfl rfl Try.func52 (by kernel_rfl) rfl #[.agg #[.int .i64 x355000_3, .int .u64 x355001_3, .int .u64 x355002_3]] rfl (by (try simp only [List.map_toArray, List.map_cons, List.map_nil]); first | done | rfl | (simp only [List.length_drop, List.length_take]; rfl)) ?_; (with_reducible refine (sequiturref28_Fits.calls x355000_3 x355001_3 x355002_3 t361 t362 _ A41.out).mono ?_); rintro e w48 ⟨rfl, hb⟩; refine ⟨_, rfl, ?_⟩; replace HO_354001 := zK (Kd.R_below (zr HO_354001) hb); replace BK344 := zK (blk_below (g := gb344) (o := .cells #[.int .i64 0, .slice none 0 0] 28 (0, 0)) (zb BK344) hb); replace BK345 := zK (blk_below (g := gb345) (o := .cells #[.int .i64 x346000_1, .int .u64 x346001_1, .int .u64 x346002_1] 76 (0, 0)) (zb BK345) hb); replace BK353 := zK (blk_below (g := gb353) (o := .cells #[.int .i64 t351, u354001] 28 (0, 0)) (zb BK353) hb); replace BK354 := zK (blk_below (g := gb354) (o := .cells #[.int .i64 x355000_3, .int .u64 x355001_3, .int .u64 x355002_3] 76 (0, 0)) (zb BK354) hb); replace HB := zK (below_step (zo HB) hb); (try clear hb); (try clear hb2); (try clear hk); (try clear hi)))
            go_roundg k3
            case measure => have := HK1.out; have := HK2.out; have := HK3.out; omega
            case rel => exact ⟨(t362), (wrap64 (x11_2 + 1)), (x354001_2), (u354001), (by first | rfl | (simp; done) | (simp [*]; done)), (by first | rfl | (simp; done) | (simp [*]; done)), H', ⟨by have := HK1.out; have := HK2.out; have := HK3.out; omega⟩, ⟨zr HO_354001⟩, ⟨zb BK344⟩, ⟨zb BK345⟩, ⟨zb BK353⟩, ⟨zo HB⟩⟩
           ·rw [if_neg c43] at H
            have c43b0 : (t361 == 0) = false := beq_eq_false_iff_ne.mpr c43
            have c43b1 : (t361 != 0) = true := bne_iff_ne.mpr c43
            by_cases c49 : x354001_2.length < 8796093022208
            ·rw [if_pos c49] at H
             have LMc49 := zK c49
             clear c49
             obtain ⟨y363, hy363⟩ : ∃ y_ : List (S47), y_ = (x354001_2 ++ [(⟨x11_2, t361⟩ : S47)]) := ⟨_, rfl⟩
             replace H : (sequiturref28_Lin.l1 k3 l0 l1 t362 (wrap64 (x11_2 + 1)) t351 y363) = some (r1, r2, r3) := by first | (rw [hy363]; with_reducible exact H) | (have H2_ := (Option.bind_some _ _).symm.trans H; rw [hy363]; with_reducible exact H2_) | (have H2_ := (Option.bind_some _ _).symm.trans H; with_reducible exact H2_) | with_reducible exact H | (rw [hy363]; exact H) | exact H
             have Ny363 := zK hy363
             clear hy363
             have H' := zK H
             clear H
             have hnb50 := NB354_344.out
             have hnc50 := NB344_354.out
             have hnb51 := NB354_345.out
             have hnc51 := NB345_354.out
             have hnb52 := NB354_353.out
             have hnc52 := NB353_354.out
             have hcz53_0 : wr.cell? ⟨gb354, 0, none⟩ = some (.int .i64 x355000_3) := (blk_cell BK354.out 0).trans rfl
             have hcz53_1 : wr.cell? ⟨gb354, 1, none⟩ = some (.int .u64 x355001_3) := (blk_cell BK354.out 1).trans rfl
             have hcz53_2 : wr.cell? ⟨gb354, 2, none⟩ = some (.int .u64 x355002_3) := (blk_cell BK354.out 2).trans rfl
             have hfz53_0 := blk_frozen BK354.out 0
             have hfz53_1 := blk_frozen BK354.out 1
             have hfz53_2 := blk_frozen BK354.out 2
             go_wp2_with (first | ((with_reducible refine zC (f := 52) rfl ?_); refine goesL_ (some 66) rfl rfl Try.func52 (by kernel_rfl) rfl #[.agg #[.int .i64 x355000_3, .int .u64 x355001_3, .int .u64 x355002_3]] rfl (by (try simp only [List.map_toArray, List.map_cons, List.map_nil]); first | done | rfl | (simp only [List.length_drop, List.length_take]; rfl)) ?_; (with_reducible refine (sequiturref28_Fits.calls x355000_3 x355001_3 x355002_3 t361 t362 _ A41.out).mono ?_); rintro e w54 ⟨rfl, hb⟩; refine ⟨_, rfl, ?_⟩; replace HO_354001 := zK (Kd.R_below (zr HO_354001) hb); replace BK344 := zK (blk_below (g := gb344) (o := .cells #[.int .i64 0, .slice none 0 0] 28 (0, 0)) (zb BK344) hb); replace BK345 := zK (blk_below (g := gb345) (o := .cells #[.int .i64 x346000_1, .int .u64 x346001_1, .int .u64 x346002_1] 76 (0, 0)) (zb BK345) hb); replace BK353 := zK (blk_below (g := gb353) (o := .cells #[.int .i64 t351, u354001] 28 (0, 0)) (zb BK353) hb); replace BK354 := zK (blk_below (g := gb354) (o := .cells #[.int .i64 x355000_3, .int .u64 x355001_3, .int .u64 x355002_3] 76 (0, 0)) (zb BK354) hb); replace HB := zK (below_step (zo HB) hb); (try clear hb); (try clear hb2); (try clear hk); (try clear hi); have hnb55 := NB353_344.out; have hnc55 := NB344_353.out; have hnb56 := NB353_345.out; have hnc56 := NB345_353.out; have hcz57_0 : w54.cell? ⟨gb353, 0, none⟩ = some (.int .i64 t351) := (blk_cell BK353.out 0).trans rfl; have hcz57_1 : w54.cell? ⟨gb353, 1, none⟩ = some (u354001) := (blk_cell BK353.out 1).trans rfl; have hfz57_0 := blk_frozen BK353.out 0; have hfz57_1 := blk_frozen BK353.out 1) | ((with_reducible refine gate_builtin (b := .append) (xs := #[.tmp 76, .tmp 80]) rfl ?_); at_builtin; refine Kd.R_append k47 (w0 := w) w.heap.size rfl (.tmp 76) (.tmp 80) 26 47 (.agg #[(.int .i64 0), (.int .i64 0)]) 16 rfl Try.underlying26 info47 rfl (by decide) (by omega) u354001 x354001_2 (⟨x11_2, t361⟩ : S47) [.int .i64 x11_2, .int .i64 t361] (fun _ => True) (fun _ => False) rfl rfl ?aP (fun _ hk => hk.elim) ?aF ?aO ?aB ?aS ?aL ?_; (case aP => exact k47_mkM _ _ _ (⟨x11_2, t361⟩ : S47)); (case aB => exact (zo HB)); (case aF => exact (fun _ _ => trivial)); (case aO => exact (zr HO_354001)); (case aS => exact (below_size (zo HB))); (case aL => have := LMc49.out; omega); intro v364 w58 ho hb hg hat; rw [← Ny363.out] at ho; replace BK344 := zK (blk_grown (g := gb344) (o := .cells #[.int .i64 0, .slice none 0 0] 28 (0, 0)) (zb BK344) hg (Kd.R_ne HO_354001.out BK344.out (by decide))); replace BK345 := zK (blk_grown (g := gb345) (o := .cells #[.int .i64 x346000_1, .int .u64 x346001_1, .int .u64 x346002_1] 76 (0, 0)) (zb BK345) hg (Kd.R_ne HO_354001.out BK345.out (by decide))); replace BK353 := zK (blk_grown (g := gb353) (o := .cells #[.int .i64 t351, u354001] 28 (0, 0)) (zb BK353) hg (Kd.R_ne HO_354001.out BK353.out (by decide))); replace BK354 := zK (blk_grown (g := gb354) (o := .cells #[.int .i64 x355000_3, .int .u64 x355001_3, .int .u64 x355002_3] 76 (0, 0)) (zb BK354) hg (Kd.R_ne HO_354001.out BK354.out (by decide))); replace HB := zK (hb); have HO365 := zK (ho); clear HO_354001 ho hb hg hat; obtain ⟨Ao59, co59, eo59⟩ := Kd.R_slice HO365.out; subst eo59; have hcz60_0 : w58.cell? ⟨gb353, 0, none⟩ = some (.int .i64 t351) := (blk_cell BK353.out 0).trans rfl; have hcz60_1 : w58.cell? ⟨gb353, 1, none⟩ = some (u354001) := (blk_cell BK353.out 1).trans rfl; have hfz60_0 := blk_frozen BK353.out 0; have hfz60_1 := blk_frozen BK353.out 1))
             go_roundg k3
             case measure => have := HK1.out; have := HK2.out; have := HK3.out; omega
             case rel => exact ⟨(t362), (wrap64 (x11_2 + 1)), (y363), (.slice Ao59 y363.length co59), (by first | rfl | (simp; done) | (simp [*]; done)), (by first | rfl | (simp; done) | (simp [*]; done)), H', ⟨by have := HK1.out; have := HK2.out; have := HK3.out; omega⟩, ⟨by (with_reducible repeat (first | apply Kd.R_alloc | apply Kd.R_drewN | apply Kd.R_drew)); exact Kd.R_mono (Kd.R_far (p := ⟨gb353, 1, none⟩) (Kd.R_types HO365.out BK353.out (by decide)) (fun _ hk => hk.2) (.slice Ao59 y363.length co59)) (fun _ hk => trivial)⟩, ⟨zb BK344⟩, ⟨zb BK345⟩, ⟨by refine zM ?_; refine blk_put (cs := #[.int .i64 t351, u354001]) ?_ 1 _ rfl; refine zM ?_; exact BK353.out⟩, ⟨zo HB⟩⟩
            ·rw [if_neg c49] at H
             exact absurd H (by simp)
          ·replace c42 := Bool.eq_false_iff.mpr c42
           subst c42
           have H1 : (if t361 = 0 then (sequiturref28_Lin.l1 k3 l0 l1 false (wrap64 (x11_2 + 1)) t351 x354001_2) else (if x354001_2.length < 8796093022208 then (sequiturref28_Lin.l1 k3 l0 l1 false (wrap64 (x11_2 + 1)) t351 (x354001_2 ++ [(⟨x11_2, t361⟩ : S47)])) else (none))) = some (r1, r2, r3) := by rw [if_neg (show ¬ (false = true) by decide)] at H; exact H
           clear H
           have H := H1
           clear H1
           by_cases c61 : t361 = 0
           ·rw [if_pos c61] at H
            have c61b0 : (t361 == 0) = true := beq_iff_eq.mpr c61
            have c61b1 : (t361 != 0) = false := bne_eq_false_iff_eq.mpr c61
            clear c61
            have H' := zK H
            clear H
            have hnb62 := NB354_344.out
            have hnc62 := NB344_354.out
            have hnb63 := NB354_345.out
            have hnc63 := NB345_354.out
            have hnb64 := NB354_353.out
            have hnc64 := NB353_354.out
            have hcz65_0 : wr.cell? ⟨gb354, 0, none⟩ = some (.int .i64 x355000_3) := (blk_cell BK354.out 0).trans rfl
            have hcz65_1 : wr.cell? ⟨gb354, 1, none⟩ = some (.int .u64 x355001_3) := (blk_cell BK354.out 1).trans rfl
            have hcz65_2 : wr.cell? ⟨gb354, 2, none⟩ = some (.int .u64 x355002_3) := (blk_cell BK354.out 2).trans rfl
            have hfz65_0 := blk_frozen BK354.out 0
            have hfz65_1 := blk_frozen BK354.out 1
            have hfz65_2 := blk_frozen BK354.out 2
            go_wp2_with (first | ((with_reducible refine zC (f := 52) rfl ?_); refine goesL_ (some 66) rfl rfl Try.func52 (by kernel_rfl) rfl #[.agg #[.int .i64 x355000_3, .int .u64 x355001_3, .int .u64 x355002_3]] rfl (by (try simp only [List.map_toArray, List.map_cons, List.map_nil]); first | done | rfl | (simp only [List.length_drop, List.length_take]; rfl)) ?_; (with_reducible refine (sequiturref28_Fits.calls x355000_3 x355001_3 x355002_3 t361 t362 _ A41.out).mono ?_); rintro e w66 ⟨rfl, hb⟩; refine ⟨_, rfl, ?_⟩; replace HO_354001 := zK (Kd.R_below (zr HO_354001) hb); replace BK344 := zK (blk_below (g := gb344) (o := .cells #[.int .i64 0, .slice none 0 0] 28 (0, 0)) (zb BK344) hb); replace BK345 := zK (blk_below (g := gb345) (o := .cells #[.int .i64 x346000_1, .int .u64 x346001_1, .int .u64 x346002_1] 76 (0, 0)) (zb BK345) hb); replace BK353 := zK (blk_below (g := gb353) (o := .cells #[.int .i64 t351, u354001] 28 (0, 0)) (zb BK353) hb); replace BK354 := zK (blk_below (g := gb354) (o := .cells #[.int .i64 x355000_3, .int .u64 x355001_3, .int .u64 x355002_3] 76 (0, 0)) (zb BK354) hb); replace HB := zK (below_step (zo HB) hb); (try clear hb); (try clear hb2); (try clear hk); (try clear hi)))
            go_roundg k3
            case measure => have := HK1.out; have := HK2.out; have := HK3.out; omega
            case rel => exact ⟨(false), (wrap64 (x11_2 + 1)), (x354001_2), (u354001), (by first | rfl | (simp; done) | (simp [*]; done)), (by first | rfl | (simp; done) | (simp [*]; done)), H', ⟨by have := HK1.out; have := HK2.out; have := HK3.out; omega⟩, ⟨zr HO_354001⟩, ⟨zb BK344⟩, ⟨zb BK345⟩, ⟨zb BK353⟩, ⟨zo HB⟩⟩
           ·rw [if_neg c61] at H
            have c61b0 : (t361 == 0) = false := beq_eq_false_iff_ne.mpr c61
            have c61b1 : (t361 != 0) = true := bne_iff_ne.mpr c61
            by_cases c67 : x354001_2.length < 8796093022208
            ·rw [if_pos c67] at H
             have LMc67 := zK c67
             clear c67
             obtain ⟨y366, hy366⟩ : ∃ y_ : List (S47), y_ = (x354001_2 ++ [(⟨x11_2, t361⟩ : S47)]) := ⟨_, rfl⟩
             replace H : (sequiturref28_Lin.l1 k3 l0 l1 false (wrap64 (x11_2 + 1)) t351 y366) = some (r1, r2, r3) := by first | (rw [hy366]; with_reducible exact H) | (have H2_ := (Option.bind_some _ _).symm.trans H; rw [hy366]; with_reducible exact H2_) | (have H2_ := (Option.bind_some _ _).symm.trans H; with_reducible exact H2_) | with_reducible exact H | (rw [hy366]; exact H) | exact H
             have Ny366 := zK hy366
             clear hy366
             have H' := zK H
             clear H
             have hnb68 := NB354_344.out
             have hnc68 := NB344_354.out
             have hnb69 := NB354_345.out
             have hnc69 := NB345_354.out
             have hnb70 := NB354_353.out
             have hnc70 := NB353_354.out
             have hcz71_0 : wr.cell? ⟨gb354, 0, none⟩ = some (.int .i64 x355000_3) := (blk_cell BK354.out 0).trans rfl
             have hcz71_1 : wr.cell? ⟨gb354, 1, none⟩ = some (.int .u64 x355001_3) := (blk_cell BK354.out 1).trans rfl
             have hcz71_2 : wr.cell? ⟨gb354, 2, none⟩ = some (.int .u64 x355002_3) := (blk_cell BK354.out 2).trans rfl
             have hfz71_0 := blk_frozen BK354.out 0
             have hfz71_1 := blk_frozen BK354.out 1
             have hfz71_2 := blk_frozen BK354.out 2
             go_wp2_with (first | ((with_reducible refine zC (f := 52) rfl ?_); refine goesL_ (some 66) rfl rfl Try.func52 (by kernel_rfl) rfl #[.agg #[.int .i64 x355000_3, .int .u64 x355001_3, .int .u64 x355002_3]] rfl (by (try simp only [List.map_toArray, List.map_cons, List.map_nil]); first | done | rfl | (simp only [List.length_drop, List.length_take]; rfl)) ?_; (with_reducible refine (sequiturref28_Fits.calls x355000_3 x355001_3 x355002_3 t361 t362 _ A41.out).mono ?_); rintro e w72 ⟨rfl, hb⟩; refine ⟨_, rfl, ?_⟩; replace HO_354001 := zK (Kd.R_below (zr HO_354001) hb); replace BK344 := zK (blk_below (g := gb344) (o := .cells #[.int .i64 0, .slice none 0 0] 28 (0, 0)) (zb BK344) hb); replace BK345 := zK (blk_below (g := gb345) (o := .cells #[.int .i64 x346000_1, .int .u64 x346001_1, .int .u64 x346002_1] 76 (0, 0)) (zb BK345) hb); replace BK353 := zK (blk_below (g := gb353) (o := .cells #[.int .i64 t351, u354001] 28 (0, 0)) (zb BK353) hb); replace BK354 := zK (blk_below (g := gb354) (o := .cells #[.int .i64 x355000_3, .int .u64 x355001_3, .int .u64 x355002_3] 76 (0, 0)) (zb BK354) hb); replace HB := zK (below_step (zo HB) hb); (try clear hb); (try clear hb2); (try clear hk); (try clear hi); have hnb73 := NB353_344.out; have hnc73 := NB344_353.out; have hnb74 := NB353_345.out; have hnc74 := NB345_353.out; have hcz75_0 : w72.cell? ⟨gb353, 0, none⟩ = some (.int .i64 t351) := (blk_cell BK353.out 0).trans rfl; have hcz75_1 : w72.cell? ⟨gb353, 1, none⟩ = some (u354001) := (blk_cell BK353.out 1).trans rfl; have hfz75_0 := blk_frozen BK353.out 0; have hfz75_1 := blk_frozen BK353.out 1) | ((with_reducible refine gate_builtin (b := .append) (xs := #[.tmp 76, .tmp 80]) rfl ?_); at_builtin; refine Kd.R_append k47 (w0 := w) w.heap.size rfl (.tmp 76) (.tmp 80) 26 47 (.agg #[(.int .i64 0), (.int .i64 0)]) 16 rfl Try.underlying26 info47 rfl (by decide) (by omega) u354001 x354001_2 (⟨x11_2, t361⟩ : S47) [.int .i64 x11_2, .int .i64 t361] (fun _ => True) (fun _ => False) rfl rfl ?aP (fun _ hk => hk.elim) ?aF ?aO ?aB ?aS ?aL ?_; (case aP => exact k47_mkM _ _ _ (⟨x11_2, t361⟩ : S47)); (case aB => exact (zo HB)); (case aF => exact (fun _ _ => trivial)); (case aO => exact (zr HO_354001)); (case aS => exact (below_size (zo HB))); (case aL => have := LMc67.out; omega); intro v367 w76 ho hb hg hat; rw [← Ny366.out] at ho; replace BK344 := zK (blk_grown (g := gb344) (o := .cells #[.int .i64 0, .slice none 0 0] 28 (0, 0)) (zb BK344) hg (Kd.R_ne HO_354001.out BK344.out (by decide))); replace BK345 := zK (blk_grown (g := gb345) (o := .cells #[.int .i64 x346000_1, .int .u64 x346001_1, .int .u64 x346002_1] 76 (0, 0)) (zb BK345) hg (Kd.R_ne HO_354001.out BK345.out (by decide))); replace BK353 := zK (blk_grown (g := gb353) (o := .cells #[.int .i64 t351, u354001] 28 (0, 0)) (zb BK353) hg (Kd.R_ne HO_354001.out BK353.out (by decide))); replace BK354 := zK (blk_grown (g := gb354) (o := .cells #[.int .i64 x355000_3, .int .u64 x355001_3, .int .u64 x355002_3] 76 (0, 0)) (zb BK354) hg (Kd.R_ne HO_354001.out BK354.out (by decide))); replace HB := zK (hb); have HO368 := zK (ho); clear HO_354001 ho hb hg hat; obtain ⟨Ao77, co77, eo77⟩ := Kd.R_slice HO368.out; subst eo77; have hcz78_0 : w76.cell? ⟨gb353, 0, none⟩ = some (.int .i64 t351) := (blk_cell BK353.out 0).trans rfl; have hcz78_1 : w76.cell? ⟨gb353, 1, none⟩ = some (u354001) := (blk_cell BK353.out 1).trans rfl; have hfz78_0 := blk_frozen BK353.out 0; have hfz78_1 := blk_frozen BK353.out 1))
             go_roundg k3
             case measure => have := HK1.out; have := HK2.out; have := HK3.out; omega
             case rel => exact ⟨(false), (wrap64 (x11_2 + 1)), (y366), (.slice Ao77 y366.length co77), (by first | rfl | (simp; done) | (simp [*]; done)), (by first | rfl | (simp; done) | (simp [*]; done)), H', ⟨by have := HK1.out; have := HK2.out; have := HK3.out; omega⟩, ⟨by (with_reducible repeat (first | apply Kd.R_alloc | apply Kd.R_drewN | apply Kd.R_drew)); exact Kd.R_mono (Kd.R_far (p := ⟨gb353, 1, none⟩) (Kd.R_types HO368.out BK353.out (by decide)) (fun _ hk => hk.2) (.slice Ao77 y366.length co77)) (fun _ hk => trivial)⟩, ⟨zb BK344⟩, ⟨zb BK345⟩, ⟨by refine zM ?_; refine blk_put (cs := #[.int .i64 t351, u354001]) ?_ 1 _ rfl; refine zM ?_; exact BK353.out⟩, ⟨zo HB⟩⟩
            ·rw [if_neg c67] at H
             exact absurd H (by simp)
      ·rw [if_neg c24] at H
       have c24b0 : decide (x11_2 < 64) = false := decide_eq_false c24
       clear c24
       by_cases c79 : x9_2 = true
       ·subst c79
        have H1 : (some (t351, x354001_2, 0)) = some (r1, r2, r3) := by rw [if_pos rfl] at H; exact H
        clear H
        have H := H1
        clear H1
        simp only [Option.some.injEq, Prod.mk.injEq] at H
        obtain ⟨rfl, rfl, rfl⟩ := H
        have hnb80 := NB353_344.out
        have hnc80 := NB344_353.out
        have hnb81 := NB353_345.out
        have hnc81 := NB345_353.out
        have hcz82_0 : wr.cell? ⟨gb353, 0, none⟩ = some (.int .i64 t351) := (blk_cell BK353.out 0).trans rfl
        have hcz82_1 : wr.cell? ⟨gb353, 1, none⟩ = some (u354001) := (blk_cell BK353.out 1).trans rfl
        have hfz82_0 := blk_frozen BK353.out 0
        have hfz82_1 := blk_frozen BK353.out 1
        have hnb83 := NB344_345.out
        have hnc83 := NB345_344.out
        have hcz84_0 : wr.cell? ⟨gb344, 0, none⟩ = some (.int .i64 0) := (blk_cell BK344.out 0).trans rfl
        have hcz84_1 : wr.cell? ⟨gb344, 1, none⟩ = some (.slice none 0 0) := (blk_cell BK344.out 1).trans rfl
        have hfz84_0 := blk_frozen BK344.out 0
        have hfz84_1 := blk_frozen BK344.out 1
        obtain ⟨Ao85, co85, eo85⟩ := Kd.R_slice HO_354001.out
        subst eo85
        go_wp2
        refine bodyPost_ret (results_ct rfl _ _ gb344 28 #[.int .i64 t351, .slice Ao85 x354001_2.length co85] (0, 0) _ rfl (by refine zM ?_; refine blk_put (cs := #[.int .i64 t351, .slice none 0 0]) ?_ 1 _ rfl; refine zM ?_; refine blk_put (cs := #[.int .i64 0, .slice none 0 0]) ?_ 0 _ rfl; refine zM ?_; exact BK344.out) Try.underlying28 rfl (by kernel_rfl)) rfl ?_
        exact ⟨_, by first | rfl | (simp [errW_none, errW_some] <;> rfl) | (simp [*, errW_none, errW_some] <;> rfl), by (with_reducible repeat (first | apply Kd.R_alloc | apply Kd.R_drewN | apply Kd.R_drew)); exact Kd.R_mono (Kd.R_far (p := ⟨gb344, 1, none⟩) (Kd.R_far (p := ⟨gb344, 0, none⟩) (Kd.R_types HO_354001.out BK344.out (by decide)) (fun _ hk => hk.2) (.int .i64 t351)) (fun _ hk => hk.2) (.slice Ao85 x354001_2.length co85)) (fun _ hk => trivial), zo HB⟩
       ·replace c79 := Bool.eq_false_iff.mpr c79
        subst c79
        have H1 : (some (0, ([] : List (S47)), 5)) = some (r1, r2, r3) := by rw [if_neg (show ¬ (false = true) by decide)] at H; exact H
        clear H
        have H := H1
        clear H1
        simp only [Option.some.injEq, Prod.mk.injEq] at H
        obtain ⟨rfl, rfl, rfl⟩ := H
        have hnb86 := NB344_345.out
        have hnc86 := NB345_344.out
        have hnb87 := NB344_353.out
        have hnc87 := NB353_344.out
        have hcz88_0 : wr.cell? ⟨gb344, 0, none⟩ = some (.int .i64 0) := (blk_cell BK344.out 0).trans rfl
        have hcz88_1 : wr.cell? ⟨gb344, 1, none⟩ = some (.slice none 0 0) := (blk_cell BK344.out 1).trans rfl
        have hfz88_0 := blk_frozen BK344.out 0
        have hfz88_1 := blk_frozen BK344.out 1
        go_wp2
        refine bodyPost_ret (results_ct rfl _ _ gb344 28 #[.int .i64 0, .slice none 0 0] (0, 0) _ rfl (by refine zM ?_; refine blk_put (cs := #[.int .i64 0, .slice none 0 0]) ?_ 1 _ rfl; refine zM ?_; refine blk_put (cs := #[.int .i64 0, .slice none 0 0]) ?_ 0 _ rfl; refine zM ?_; exact BK344.out) Try.underlying28 rfl (by kernel_rfl)) rfl ?_
        exact ⟨_, by first | rfl | (simp [errW_none, errW_some] <;> rfl) | (simp [*, errW_none, errW_some] <;> rfl), by first | exact Kd.R_nil _ _ _ _ _ | exact Kd.N_nil _ _ _ _ _ | exact Kd.V_nil _ _ _ _ _ | exact Kd.Q_nil _ _ _ _ _ | exact Kd.S_nil _ _ _ _ _, zo HB⟩

end Go.Proofs.Ytmedciidghmkkaa.PIneqTurns
