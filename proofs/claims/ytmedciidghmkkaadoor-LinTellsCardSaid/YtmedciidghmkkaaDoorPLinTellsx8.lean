/- What the call of each function that the law reaches comes to: it answers as the plain function of the same name does, wherever that one answers; and the law itself out of its plain form. Written by a program of this session (an extended copy of the printer); no condition but what stands in each theorem. -/
import Derived.Test.YtmedciidghmkkaaDoorPLinTellsx0
import Derived.Test.YtmedciidghmkkaaDoorPLinTellsx7
namespace Go.Proofs.YtmedciidghmkkaaDoor.PLinTells
open Go.RowKit Go.Proofs.YtmedciidghmkkaaDoorW.PrintWords Go.Proofs.YtmedciidghmkkaaDoorW.PrintLast Go.Proofs.YtmedciidghmkkaaDoorW.PrintMore
open Go.Proofs.YtmedciidghmkkaaDoorW.PrintWords renaming blk_drewN → zN, blk_drew → zD, blk_alloc → zA, below_alloc → yA, pw_below_drewN → yN, below_drew1 → yD, below_set → yS, gate_callee → zC
open Go.Proofs.YtmedciidghmkkaaDoorW.PrintWords.Aside0 renaming mk → zK
attribute [local go_sem] max2_int min2_int max_two min_two max_three min_three max_four min_four   -- for this text's walks alone
set_option linter.unusedVariables false
set_option linter.unusedSimpArgs false

/-! ### sequiturref01_Times: function 50 -/
mutual
def sequiturref01_Times.j0 : Nat → Int → Int → Int → Option (Int × Int)
 | 0, _, _, _ => none
 | k + 1, x1, x253000, x253001 => (sequiturref01_Far.f x1).bind fun t256 => (sequiturref01_Times.l0 k t256 x253000 x253001 0 0)
def sequiturref01_Times.l0 : Nat → Int → Int → Int → Int → Int → Option (Int × Int)
 | 0, _, _, _, _, _ => none
 | k + 1, x7, x253000, x253001, x256000, x256001 => if x7 > 0 then (if (Int.tmod x7 2) = 1 then ((sequiturref01_Plus.f x256000 x256001 x253000 x253001).bind fun bt257 => ((sequiturref01_Plus.f x253000 x253001 x253000 x253001).bind fun bt259 => (sequiturref01_Times.l0 k (IntKind.u64.wrap (Int.tdiv x7 2)) bt259.1 bt259.2 bt257.1 bt257.2))) else ((sequiturref01_Plus.f x253000 x253001 x253000 x253001).bind fun bt261 => (sequiturref01_Times.l0 k (IntKind.u64.wrap (Int.tdiv x7 2)) bt261.1 bt261.2 x256000 x256001))) else (some (x256000, x256001))
end
def sequiturref01_Times.f (k : Nat) (a0 : Int) (a1 : Int) : Option (Int × Int) := (sequiturref01_Of.f a0).bind fun bt250 => (if a1 < 0 then ((sequiturref01_Minus.f bt250.1 bt250.2).bind fun bt253 => (sequiturref01_Times.j0 k a1 bt253.1 bt253.2)) else (sequiturref01_Times.j0 k a1 bt250.1 bt250.2))
theorem sequiturref01_Times.mono_l : ∀ k, (∀ y0 y1 y2, LeO (sequiturref01_Times.j0 k y0 y1 y2) (sequiturref01_Times.j0 (k + 1) y0 y1 y2)) ∧ (∀ y0 y1 y2 y3 y4, LeO (sequiturref01_Times.l0 k y0 y1 y2 y3 y4) (sequiturref01_Times.l0 (k + 1) y0 y1 y2 y3 y4))
 | 0 => ⟨fun _ _ _ r h => by simp [sequiturref01_Times.j0] at h, fun _ _ _ _ _ r h => by simp [sequiturref01_Times.l0] at h⟩
 | k + 1 => by
  obtain ⟨ih0, ih1⟩ := sequiturref01_Times.mono_l k
  refine ⟨?_, ?_⟩
  ·intro y0 y1 y2
   unfold sequiturref01_Times.j0
   repeat' first
   | (with_reducible exact ih0 _ _ _)
   | (with_reducible exact ih1 _ _ _ _ _)
   | (with_reducible exact LeO.refl _)
   | (with_reducible exact LeO.none _)
   | (with_reducible refine LeO.ite ?_ ?_)
   | (with_reducible refine LeO.bind ?_ (fun _ => ?_))
   | exact ih0 _ _ _
   | exact ih1 _ _ _ _ _
   | exact LeO.none _
   | refine LeO.ite ?_ ?_
   | refine LeO.bind ?_ (fun _ => ?_)
  ·intro y0 y1 y2 y3 y4
   unfold sequiturref01_Times.l0
   repeat' first
   | (with_reducible exact ih0 _ _ _)
   | (with_reducible exact ih1 _ _ _ _ _)
   | (with_reducible exact LeO.refl _)
   | (with_reducible exact LeO.none _)
   | (with_reducible refine LeO.ite ?_ ?_)
   | (with_reducible refine LeO.bind ?_ (fun _ => ?_))
   | exact ih0 _ _ _
   | exact ih1 _ _ _ _ _
   | exact LeO.none _
   | refine LeO.ite ?_ ?_
   | refine LeO.bind ?_ (fun _ => ?_)
theorem sequiturref01_Times.mono : ∀ a0 a1 k, LeO (sequiturref01_Times.f k a0 a1) (sequiturref01_Times.f (k + 1) a0 a1) := by
 intro a0 a1 k
 obtain ⟨ih0, ih1⟩ := sequiturref01_Times.mono_l k
 unfold sequiturref01_Times.f
 repeat' first
   | (with_reducible exact ih0 _ _ _)
   | (with_reducible exact ih1 _ _ _ _ _)
   | (with_reducible exact LeO.refl _)
   | (with_reducible exact LeO.none _)
   | (with_reducible refine LeO.ite ?_ ?_)
   | (with_reducible refine LeO.bind ?_ (fun _ => ?_))
   | exact ih0 _ _ _
   | exact ih1 _ _ _ _ _
   | exact LeO.none _
   | refine LeO.ite ?_ ?_
   | refine LeO.bind ?_ (fun _ => ?_)
set_option maxHeartbeats 8000000 in
set_option maxRecDepth 100000 in
theorem sequiturref01_Times.calls (k : Nat) (a0 : Int) (a1 : Int) (r1 : Int) (r2 : Int) (w : World) (h : sequiturref01_Times.f k a0 a1 = some (r1, r2)) :
  Calls Tryd.prog 50 #[.int .i64 a0, .int .i64 a1] w fun e w' => e = .returned (.agg #[.int .i64 r1, .int .u64 r2]) ∧ Below w.heap.size w w' := by
 have hu59 := Tryd.underlying59
 have HB := zK (Below.refl w.heap.size w)
 have H : ((sequiturref01_Of.f a0).bind fun bt250 => (if a1 < 0 then ((sequiturref01_Minus.f bt250.1 bt250.2).bind fun bt253 => (sequiturref01_Times.j0 k a1 bt253.1 bt253.2)) else (sequiturref01_Times.j0 k a1 bt250.1 bt250.2))) = some (r1, r2) := h
 clear h
 replace H := Option.bind_eq_some_iff.mp H
 obtain ⟨⟨t250, t251⟩, A30, H⟩ := H
 replace H : (if a1 < 0 then ((sequiturref01_Minus.f t250 t251).bind fun bt253 => (sequiturref01_Times.j0 k a1 bt253.1 bt253.2)) else (sequiturref01_Times.j0 k a1 t250 t251)) = some (r1, r2) := H
 have A3 := zK A30
 clear A30
 have HC4 := zK H
 clear H
 go_enter Tryd.func50, Tryd.ntmps50
 go_upto_if 11 with (first | ((with_reducible refine gate_dst (N := 4) rfl ?_); refine box_event ?hg (N := 4) ?hd (cs := #[.int .i64 0, .int .u64 0]) (t := 59) ?hr ?_; (case hd => rfl); (case hg => rfl); (case hr => first | (go_simp; done) | (go_simp; rfl)); intro gb249 hg w5 hbox hb; have BK249 := zK (hbox); have GW249 := zK ((by rw [hg]; exact (below_size (zo HB)) : w.heap.size ≤ gb249)); have GE249 := zK ((by rw [hg]; exact (below_size (zo HB)) : w.heap.size ≤ gb249)); replace HB := zK (below_step (zo HB) hb); clear hb hbox hg) | ((with_reducible refine zC (f := 52) rfl ?_); refine goesL_ (some 9) rfl rfl Tryd.func52 (by kernel_rfl) rfl #[.int .i64 a0] rfl (by (try simp only [List.map_toArray, List.map_cons, List.map_nil]); first | done | rfl | (simp only [List.length_drop, List.length_take]; rfl)) ?_; (with_reducible refine (sequiturref01_Of.calls a0 t250 t251 _ A3.out).mono ?_); rintro e w6 ⟨rfl, hb⟩; refine ⟨_, rfl, ?_⟩; replace BK249 := zK (blk_below (g := gb249) (o := .cells #[.int .i64 0, .int .u64 0] 59 (0, 0)) (zb BK249) hb); replace HB := zK (below_step (zo HB) hb); (try clear hb); (try clear hb2); (try clear hk); (try clear hi)) | ((with_reducible refine gate_dst (N := 5) rfl ?_); refine box_event ?hg (N := 5) ?hd (cs := #[.int .i64 0, .int .u64 0]) (t := 59) ?hr ?_; (case hd => rfl); (case hg => rfl); (case hr => first | (go_simp; done) | (go_simp; rfl)); intro gb252 hg w7 hbox hb; have BK252 := zK (hbox); have GW252 := zK ((by rw [hg]; exact (below_size (zo HB)) : w.heap.size ≤ gb252)); have GE252 := zK ((by rw [hg]; exact (below_size (zo HB)) : w.heap.size ≤ gb252)); replace HB := zK (below_step (zo HB) hb); have NB249_252 := zK ((by rw [hg]; exact Nat.ne_of_lt (blk_lt (g := gb249) (o := .cells #[.int .i64 0, .int .u64 0] 59 (0, 0)) (zb BK249)) : gb249 ≠ gb252)); have NB252_249 := zK ((by rw [hg]; exact Nat.ne_of_gt (blk_lt (g := gb249) (o := .cells #[.int .i64 0, .int .u64 0] 59 (0, 0)) (zb BK249)) : gb252 ≠ gb249)); replace BK249 := zK (blk_below (g := gb249) (o := .cells #[.int .i64 0, .int .u64 0] 59 (0, 0)) (zb BK249) hb); clear hb hbox hg; have hnb8 := NB252_249.out; have hnc8 := NB249_252.out; have hcz9_0 : w7.cell? ⟨gb252, 0, none⟩ = some (.int .i64 0) := (blk_cell BK252.out 0).trans rfl; have hcz9_1 : w7.cell? ⟨gb252, 1, none⟩ = some (.int .u64 0) := (blk_cell BK252.out 1).trans rfl; have hfz9_0 := blk_frozen BK252.out 0; have hfz9_1 := blk_frozen BK252.out 1))
 (try simp only [Act.put, List.setIfInBounds_toArray, List.set_cons_zero, List.set_cons_succ])
 go_cut [] (fun wc => ∃ (kq : Nat) (x253000_3 : Int) (x253001_3 : Int), Aside0 (sequiturref01_Times.j0 kq a1 x253000_3 x253001_3 = some (r1, r2)) ∧ Aside0 (kq ≤ k) ∧ Aside0 (wc.heap[gb249]? = some (.cells #[.int .i64 0, .int .u64 0] 59 (0, 0))) ∧ Aside0 (wc.heap[gb252]? = some (.cells #[.int .i64 x253000_3, .int .u64 x253001_3] 59 (0, 0))) ∧ Aside0 (Below w.heap.size w wc))
 case first =>
  have H := HC4.out
  clear HC4
  by_cases c10 : a1 < 0
  ·rw [if_pos c10] at H
   have c10b0 : decide (a1 < 0) = true := decide_eq_true c10
   clear c10
   (first | rw [c10b0] | (simp only [i64_w, i32_w]; rw [c10b0]) | skip)
   replace H := Option.bind_eq_some_iff.mp H
   obtain ⟨⟨t253, t254⟩, A110, H⟩ := H
   replace H : (sequiturref01_Times.j0 k a1 t253 t254) = some (r1, r2) := H
   have A11 := zK A110
   clear A110
   have H' := zK H
   clear H
   have hnb12 := NB252_249.out
   have hnc12 := NB249_252.out
   have hcz13_0 : w7.cell? ⟨gb252, 0, none⟩ = some (.int .i64 0) := (blk_cell BK252.out 0).trans rfl
   have hcz13_1 : w7.cell? ⟨gb252, 1, none⟩ = some (.int .u64 0) := (blk_cell BK252.out 1).trans rfl
   have hfz13_0 := blk_frozen BK252.out 0
   have hfz13_1 := blk_frozen BK252.out 1
   go_wp2_with (first | ((with_reducible refine zC (f := 67) rfl ?_); refine goesL_ (some 13) rfl rfl Tryd.func67 (by kernel_rfl) rfl #[.agg #[.int .i64 t250, .int .u64 t251]] rfl (by (try simp only [List.map_toArray, List.map_cons, List.map_nil]); first | done | rfl | (simp only [List.length_drop, List.length_take]; rfl)) ?_; (with_reducible refine (sequiturref01_Minus.calls t250 t251 t253 t254 _ A11.out).mono ?_); rintro e w14 ⟨rfl, hb⟩; refine ⟨_, rfl, ?_⟩; replace BK249 := zK (blk_below (g := gb249) (o := .cells #[.int .i64 0, .int .u64 0] 59 (0, 0)) (zb BK249) hb); replace BK252 := zK (blk_below (g := gb252) (o := .cells #[.int .i64 t250, .int .u64 t251] 59 (0, 0)) (by refine zM ?_; refine blk_put (cs := #[.int .i64 t250, .int .u64 0]) ?_ 1 _ rfl; refine zM ?_; refine blk_put (cs := #[.int .i64 0, .int .u64 0]) ?_ 0 _ rfl; refine zM ?_; exact BK252.out) hb); replace HB := zK (below_step (zo HB) hb); (try clear hb); (try clear hb2); (try clear hk); (try clear hi); have hcz15_0 : w14.cell? ⟨gb252, 0, none⟩ = some (.int .i64 t250) := (blk_cell BK252.out 0).trans rfl; have hcz15_1 : w14.cell? ⟨gb252, 1, none⟩ = some (.int .u64 t251) := (blk_cell BK252.out 1).trans rfl; have hfz15_0 := blk_frozen BK252.out 0; have hfz15_1 := blk_frozen BK252.out 1))
   go_meet
   case rel => exact ⟨_, (t253), (t254), H', ⟨by first | omega | exact Nat.le_refl _⟩, ⟨zb BK249⟩, ⟨by refine zM ?_; refine blk_put (cs := #[.int .i64 t253, .int .u64 t251]) ?_ 1 _ rfl; refine zM ?_; refine blk_put (cs := #[.int .i64 t250, .int .u64 t251]) ?_ 0 _ rfl; refine zM ?_; exact BK252.out⟩, ⟨zo HB⟩⟩
  ·rw [if_neg c10] at H
   have c10b0 : decide (a1 < 0) = false := decide_eq_false c10
   clear c10
   (first | rw [c10b0] | (simp only [i64_w, i32_w]; rw [c10b0]) | skip)
   have H' := zK H
   clear H
   go_wp2
   go_meet
   case rel => exact ⟨_, (t250), (t251), H', ⟨by first | omega | exact Nat.le_refl _⟩, ⟨zb BK249⟩, ⟨by refine zM ?_; refine blk_put (cs := #[.int .i64 t250, .int .u64 0]) ?_ 1 _ rfl; refine zM ?_; refine blk_put (cs := #[.int .i64 0, .int .u64 0]) ?_ 0 _ rfl; refine zM ?_; exact BK252.out⟩, ⟨zo HB⟩⟩
 case rest =>
  clear HC4
  try clear c1
  try clear p2
  try clear c5
  try clear c6
  try clear c8
  try clear c10
  try clear c10b0
  try clear c12
  try clear hcz13_0
  try clear hcz13_1
  try clear hcz15_0
  try clear hcz15_1
  try clear hcz9_0
  try clear hcz9_1
  try clear hfz13_0
  try clear hfz13_1
  try clear hfz15_0
  try clear hfz15_1
  try clear hfz9_0
  try clear hfz9_1
  obtain ⟨kq, x253000_3, x253001_3, HA, HJ3, BK249, BK252, HB⟩ := hcut
  cases kq with
  | zero => exact absurd HA.out (by simp [sequiturref01_Times.j0])
  | succ kj3 =>
   have H := HA.out
   clear HA
   simp only [sequiturref01_Times.j0] at H
   replace H := Option.bind_eq_some_iff.mp H
   obtain ⟨t256, A160, H⟩ := H
   replace H : (sequiturref01_Times.l0 kj3 t256 x253000_3 x253001_3 0 0) = some (r1, r2) := H
   have A16 := zK A160
   clear A160
   have H' := zK H
   clear H
   go_wp2_with (first | ((with_reducible refine gate_dst (N := 6) rfl ?_); refine box_event ?hg (N := 6) ?hd (cs := #[.int .i64 0, .int .u64 0]) (t := 59) ?hr ?_; (case hd => rfl); (case hg => rfl); (case hr => first | (go_simp; done) | (go_simp; rfl)); intro gb255 hg w17 hbox hb; have BK255 := zK (hbox); have GW255 := zK ((by rw [hg]; exact (below_size (zo HB)) : w.heap.size ≤ gb255)); have GE255 := zK ((by rw [hg]; exact (below_size (zo HB)) : w.heap.size ≤ gb255)); replace HB := zK (below_step (zo HB) hb); have NB249_255 := zK ((by rw [hg]; exact Nat.ne_of_lt (blk_lt (g := gb249) (o := .cells #[.int .i64 0, .int .u64 0] 59 (0, 0)) (zb BK249)) : gb249 ≠ gb255)); have NB255_249 := zK ((by rw [hg]; exact Nat.ne_of_gt (blk_lt (g := gb249) (o := .cells #[.int .i64 0, .int .u64 0] 59 (0, 0)) (zb BK249)) : gb255 ≠ gb249)); replace BK249 := zK (blk_below (g := gb249) (o := .cells #[.int .i64 0, .int .u64 0] 59 (0, 0)) (zb BK249) hb); have NB252_255 := zK ((by rw [hg]; exact Nat.ne_of_lt (blk_lt (g := gb252) (o := .cells #[.int .i64 x253000_3, .int .u64 x253001_3] 59 (0, 0)) (zb BK252)) : gb252 ≠ gb255)); have NB255_252 := zK ((by rw [hg]; exact Nat.ne_of_gt (blk_lt (g := gb252) (o := .cells #[.int .i64 x253000_3, .int .u64 x253001_3] 59 (0, 0)) (zb BK252)) : gb255 ≠ gb252)); replace BK252 := zK (blk_below (g := gb252) (o := .cells #[.int .i64 x253000_3, .int .u64 x253001_3] 59 (0, 0)) (zb BK252) hb); clear hb hbox hg; have hnb18 := NB255_249.out; have hnc18 := NB249_255.out; have hnb19 := NB255_252.out; have hnc19 := NB252_255.out; have hcz20_0 : w17.cell? ⟨gb255, 0, none⟩ = some (.int .i64 0) := (blk_cell BK255.out 0).trans rfl; have hcz20_1 : w17.cell? ⟨gb255, 1, none⟩ = some (.int .u64 0) := (blk_cell BK255.out 1).trans rfl; have hfz20_0 := blk_frozen BK255.out 0; have hfz20_1 := blk_frozen BK255.out 1) | ((with_reducible refine zC (f := 61) rfl ?_); refine goesL_ (some 16) rfl rfl Tryd.func61 (by kernel_rfl) rfl #[.int .i64 a1] rfl (by (try simp only [List.map_toArray, List.map_cons, List.map_nil]); first | done | rfl | (simp only [List.length_drop, List.length_take]; rfl)) ?_; (with_reducible refine (sequiturref01_Far.calls a1 t256 _ A16.out).mono ?_); rintro e w' ⟨rfl, ⟨nd, rfl⟩⟩; refine ⟨_, rfl, ?_⟩))
   go_loopg [7] kj3 (fun kq v7 w' => ∃ (x7_2 : Int) (x253000_2 : Int) (x253001_2 : Int) (x256000_2 : Int) (x256001_2 : Int), v7 = .int .u64 x7_2 ∧ Aside0 (sequiturref01_Times.l0 kq x7_2 x253000_2 x253001_2 x256000_2 x256001_2 = some (r1, r2)) ∧ Aside0 (kq ≤ kj3) ∧ Aside0 (w'.heap[gb249]? = some (.cells #[.int .i64 0, .int .u64 0] 59 (0, 0))) ∧ Aside0 (w'.heap[gb252]? = some (.cells #[.int .i64 x253000_2, .int .u64 x253001_2] 59 (0, 0))) ∧ Aside0 (w'.heap[gb255]? = some (.cells #[.int .i64 x256000_2, .int .u64 x256001_2] 59 (0, 0))) ∧ Aside0 (Below w.heap.size w w'))
   case atStart => exact ⟨(t256), (x253000_3), (x253001_3), (0), (0), (by first | rfl | (simp; done) | (simp [*]; done)), H', ⟨Nat.le_refl _⟩, ⟨zb BK249⟩, ⟨zb BK252⟩, ⟨by refine zM ?_; refine blk_put (cs := #[.int .i64 0, .int .u64 0]) ?_ 1 _ rfl; refine zM ?_; refine blk_put (cs := #[.int .i64 0, .int .u64 0]) ?_ 0 _ rfl; refine zM ?_; exact BK255.out⟩, ⟨zo HB⟩⟩
   case round =>
    clear H'
    try clear c1
    try clear p2
    try clear c5
    try clear c6
    try clear c8
    try clear c10
    try clear c10b0
    try clear c12
    try clear c18
    try clear c19
    try clear hcz13_0
    try clear hcz13_1
    try clear hcz15_0
    try clear hcz15_1
    try clear hcz20_0
    try clear hcz20_1
    try clear hcz9_0
    try clear hcz9_1
    try clear hfz13_0
    try clear hfz13_1
    try clear hfz15_0
    try clear hfz15_1
    try clear hfz20_0
    try clear hfz20_1
    try clear hfz9_0
    try clear hfz9_1
    try clear p2
    obtain ⟨x7_2, x253000_2, x253001_2, x256000_2, x256001_2, rfl, HA, HK2, BK249, BK252, BK255, HB⟩ := hrel
    cases gk with
    | zero => exact absurd HA.out (by simp [sequiturref01_Times.l0])
    | succ k2 =>
     have H := HA.out
     clear HA
     simp only [sequiturref01_Times.l0] at H
     by_cases c21 : x7_2 > 0
     ·rw [if_pos c21] at H
      have c21b0 : decide (0 < x7_2) = true := decide_eq_true c21
      clear c21
      by_cases c22 : (Int.tmod x7_2 2) = 1
      ·rw [if_pos c22] at H
       have c22b0 : ((Int.tmod x7_2 2) == 1) = true := beq_iff_eq.mpr c22
       have c22b1 : ((Int.tmod x7_2 2) != 1) = false := bne_eq_false_iff_eq.mpr c22
       clear c22
       replace H := Option.bind_eq_some_iff.mp H
       obtain ⟨⟨t257, t258⟩, A230, H⟩ := H
       replace H : ((sequiturref01_Plus.f x253000_2 x253001_2 x253000_2 x253001_2).bind fun bt259 => (sequiturref01_Times.l0 k2 (IntKind.u64.wrap (Int.tdiv x7_2 2)) bt259.1 bt259.2 t257 t258)) = some (r1, r2) := H
       have A23 := zK A230
       clear A230
       replace H := Option.bind_eq_some_iff.mp H
       obtain ⟨⟨t259, t260⟩, A240, H⟩ := H
       replace H : (sequiturref01_Times.l0 k2 (IntKind.u64.wrap (Int.tdiv x7_2 2)) t259 t260 t257 t258) = some (r1, r2) := H
       have A24 := zK A240
       clear A240
       have H' := zK H
       clear H
       have hnb25 := NB255_249.out
       have hnc25 := NB249_255.out
       have hnb26 := NB255_252.out
       have hnc26 := NB252_255.out
       have hcz27_0 : wr.cell? ⟨gb255, 0, none⟩ = some (.int .i64 x256000_2) := (blk_cell BK255.out 0).trans rfl
       have hcz27_1 : wr.cell? ⟨gb255, 1, none⟩ = some (.int .u64 x256001_2) := (blk_cell BK255.out 1).trans rfl
       have hfz27_0 := blk_frozen BK255.out 0
       have hfz27_1 := blk_frozen BK255.out 1
       have hnb28 := NB252_249.out
       have hnc28 := NB249_252.out
       have hcz29_0 : wr.cell? ⟨gb252, 0, none⟩ = some (.int .i64 x253000_2) := (blk_cell BK252.out 0).trans rfl
       have hcz29_1 : wr.cell? ⟨gb252, 1, none⟩ = some (.int .u64 x253001_2) := (blk_cell BK252.out 1).trans rfl
       have hfz29_0 := blk_frozen BK252.out 0
       have hfz29_1 := blk_frozen BK252.out 1
       go_wp2_with (first | ((with_reducible refine zC (f := 51) rfl ?_); refine goesL_ (some 26) rfl rfl Tryd.func51 (by kernel_rfl) rfl #[.agg #[.int .i64 x256000_2, .int .u64 x256001_2], .agg #[.int .i64 x253000_2, .int .u64 x253001_2]] rfl (by (try simp only [List.map_toArray, List.map_cons, List.map_nil]); first | done | rfl | (simp only [List.length_drop, List.length_take]; rfl)) ?_; (with_reducible refine (sequiturref01_Plus.calls x256000_2 x256001_2 x253000_2 x253001_2 t257 t258 _ A23.out).mono ?_); rintro e w30 ⟨rfl, hb⟩; refine ⟨_, rfl, ?_⟩; replace BK249 := zK (blk_below (g := gb249) (o := .cells #[.int .i64 0, .int .u64 0] 59 (0, 0)) (zb BK249) hb); replace BK252 := zK (blk_below (g := gb252) (o := .cells #[.int .i64 x253000_2, .int .u64 x253001_2] 59 (0, 0)) (zb BK252) hb); replace BK255 := zK (blk_below (g := gb255) (o := .cells #[.int .i64 x256000_2, .int .u64 x256001_2] 59 (0, 0)) (zb BK255) hb); replace HB := zK (below_step (zo HB) hb); (try clear hb); (try clear hb2); (try clear hk); (try clear hi); have hcz31_0 : w30.cell? ⟨gb255, 0, none⟩ = some (.int .i64 x256000_2) := (blk_cell BK255.out 0).trans rfl; have hcz31_1 : w30.cell? ⟨gb255, 1, none⟩ = some (.int .u64 x256001_2) := (blk_cell BK255.out 1).trans rfl; have hfz31_0 := blk_frozen BK255.out 0; have hfz31_1 := blk_frozen BK255.out 1; have hcz32_0 : w30.cell? ⟨gb252, 0, none⟩ = some (.int .i64 x253000_2) := (blk_cell BK252.out 0).trans rfl; have hcz32_1 : w30.cell? ⟨gb252, 1, none⟩ = some (.int .u64 x253001_2) := (blk_cell BK252.out 1).trans rfl; have hfz32_0 := blk_frozen BK252.out 0; have hfz32_1 := blk_frozen BK252.out 1) | ((with_reducible refine zC (f := 51) rfl ?_); refine goesL_ (some 29) rfl rfl Tryd.func51 (by kernel_rfl) rfl #[.agg #[.int .i64 x253000_2, .int .u64 x253001_2], .agg #[.int .i64 x253000_2, .int .u64 x253001_2]] rfl (by (try simp only [List.map_toArray, List.map_cons, List.map_nil]); first | done | rfl | (simp only [List.length_drop, List.length_take]; rfl)) ?_; (with_reducible refine (sequiturref01_Plus.calls x253000_2 x253001_2 x253000_2 x253001_2 t259 t260 _ A24.out).mono ?_); rintro e w33 ⟨rfl, hb⟩; refine ⟨_, rfl, ?_⟩; replace BK249 := zK (blk_below (g := gb249) (o := .cells #[.int .i64 0, .int .u64 0] 59 (0, 0)) (zb BK249) hb); replace BK252 := zK (blk_below (g := gb252) (o := .cells #[.int .i64 x253000_2, .int .u64 x253001_2] 59 (0, 0)) (zb BK252) hb); replace BK255 := zK (blk_below (g := gb255) (o := .cells #[.int .i64 t257, .int .u64 t258] 59 (0, 0)) (by refine zM ?_; refine blk_put (cs := #[.int .i64 t257, .int .u64 x256001_2]) ?_ 1 _ rfl; refine zM ?_; refine blk_put (cs := #[.int .i64 x256000_2, .int .u64 x256001_2]) ?_ 0 _ rfl; refine zM ?_; exact BK255.out) hb); replace HB := zK (below_step (zo HB) hb); (try clear hb); (try clear hb2); (try clear hk); (try clear hi); have hcz34_0 : w33.cell? ⟨gb252, 0, none⟩ = some (.int .i64 x253000_2) := (blk_cell BK252.out 0).trans rfl; have hcz34_1 : w33.cell? ⟨gb252, 1, none⟩ = some (.int .u64 x253001_2) := (blk_cell BK252.out 1).trans rfl; have hfz34_0 := blk_frozen BK252.out 0; have hfz34_1 := blk_frozen BK252.out 1))
       go_roundg k2
       case measure => have := HJ3.out; have := HK2.out; omega
       case rel => exact ⟨(IntKind.u64.wrap (Int.tdiv x7_2 2)), (t259), (t260), (t257), (t258), (by first | rfl | (simp; done) | (simp [*]; done)), H', ⟨by have := HJ3.out; have := HK2.out; omega⟩, ⟨zb BK249⟩, ⟨by refine zM ?_; refine blk_put (cs := #[.int .i64 t259, .int .u64 x253001_2]) ?_ 1 _ rfl; refine zM ?_; refine blk_put (cs := #[.int .i64 x253000_2, .int .u64 x253001_2]) ?_ 0 _ rfl; refine zM ?_; exact BK252.out⟩, ⟨zb BK255⟩, ⟨zo HB⟩⟩
      ·rw [if_neg c22] at H
       have c22b0 : ((Int.tmod x7_2 2) == 1) = false := beq_eq_false_iff_ne.mpr c22
       have c22b1 : ((Int.tmod x7_2 2) != 1) = true := bne_iff_ne.mpr c22
       replace H := Option.bind_eq_some_iff.mp H
       obtain ⟨⟨t261, t262⟩, A350, H⟩ := H
       replace H : (sequiturref01_Times.l0 k2 (IntKind.u64.wrap (Int.tdiv x7_2 2)) t261 t262 x256000_2 x256001_2) = some (r1, r2) := H
       have A35 := zK A350
       clear A350
       have H' := zK H
       clear H
       have hnb36 := NB252_249.out
       have hnc36 := NB249_252.out
       have hnb37 := NB252_255.out
       have hnc37 := NB255_252.out
       have hcz38_0 : wr.cell? ⟨gb252, 0, none⟩ = some (.int .i64 x253000_2) := (blk_cell BK252.out 0).trans rfl
       have hcz38_1 : wr.cell? ⟨gb252, 1, none⟩ = some (.int .u64 x253001_2) := (blk_cell BK252.out 1).trans rfl
       have hfz38_0 := blk_frozen BK252.out 0
       have hfz38_1 := blk_frozen BK252.out 1
       go_wp2_with (first | ((with_reducible refine zC (f := 51) rfl ?_); refine goesL_ (some 29) rfl rfl Tryd.func51 (by kernel_rfl) rfl #[.agg #[.int .i64 x253000_2, .int .u64 x253001_2], .agg #[.int .i64 x253000_2, .int .u64 x253001_2]] rfl (by (try simp only [List.map_toArray, List.map_cons, List.map_nil]); first | done | rfl | (simp only [List.length_drop, List.length_take]; rfl)) ?_; (with_reducible refine (sequiturref01_Plus.calls x253000_2 x253001_2 x253000_2 x253001_2 t261 t262 _ A35.out).mono ?_); rintro e w39 ⟨rfl, hb⟩; refine ⟨_, rfl, ?_⟩; replace BK249 := zK (blk_below (g := gb249) (o := .cells #[.int .i64 0, .int .u64 0] 59 (0, 0)) (zb BK249) hb); replace BK252 := zK (blk_below (g := gb252) (o := .cells #[.int .i64 x253000_2, .int .u64 x253001_2] 59 (0, 0)) (zb BK252) hb); replace BK255 := zK (blk_below (g := gb255) (o := .cells #[.int .i64 x256000_2, .int .u64 x256001_2] 59 (0, 0)) (zb BK255) hb); replace HB := zK (below_step (zo HB) hb); (try clear hb); (try clear hb2); (try clear hk); (try clear hi); have hcz40_0 : w39.cell? ⟨gb252, 0, none⟩ = some (.int .i64 x253000_2) := (blk_cell BK252.out 0).trans rfl; have hcz40_1 : w39.cell? ⟨gb252, 1, none⟩ = some (.int .u64 x253001_2) := (blk_cell BK252.out 1).trans rfl; have hfz40_0 := blk_frozen BK252.out 0; have hfz40_1 := blk_frozen BK252.out 1))
       go_roundg k2
       case measure => have := HJ3.out; have := HK2.out; omega
       case rel => exact ⟨(IntKind.u64.wrap (Int.tdiv x7_2 2)), (t261), (t262), (x256000_2), (x256001_2), (by first | rfl | (simp; done) | (simp [*]; done)), H', ⟨by have := HJ3.out; have := HK2.out; omega⟩, ⟨zb BK249⟩, ⟨by refine zM ?_; refine blk_put (cs := #[.int .i64 t261, .int .u64 x253001_2]) ?_ 1 _ rfl; refine zM ?_; refine blk_put (cs := #[.int .i64 x253000_2, .int .u64 x253001_2]) ?_ 0 _ rfl; refine zM ?_; exact BK252.out⟩, ⟨zb BK255⟩, ⟨zo HB⟩⟩
     ·rw [if_neg c21] at H
      have c21b0 : decide (0 < x7_2) = false := decide_eq_false c21
      clear c21
      simp only [Option.some.injEq, Prod.mk.injEq] at H
      obtain ⟨rfl, rfl⟩ := H
      have hnb41 := NB255_249.out
      have hnc41 := NB249_255.out
      have hnb42 := NB255_252.out
      have hnc42 := NB252_255.out
      have hcz43_0 : wr.cell? ⟨gb255, 0, none⟩ = some (.int .i64 x256000_2) := (blk_cell BK255.out 0).trans rfl
      have hcz43_1 : wr.cell? ⟨gb255, 1, none⟩ = some (.int .u64 x256001_2) := (blk_cell BK255.out 1).trans rfl
      have hfz43_0 := blk_frozen BK255.out 0
      have hfz43_1 := blk_frozen BK255.out 1
      have hnb44 := NB249_252.out
      have hnc44 := NB252_249.out
      have hcz45_0 : wr.cell? ⟨gb249, 0, none⟩ = some (.int .i64 0) := (blk_cell BK249.out 0).trans rfl
      have hcz45_1 : wr.cell? ⟨gb249, 1, none⟩ = some (.int .u64 0) := (blk_cell BK249.out 1).trans rfl
      have hfz45_0 := blk_frozen BK249.out 0
      have hfz45_1 := blk_frozen BK249.out 1
      go_wp2
      refine bodyPost_ret (results_cell_row rfl _ _ gb249 59 #[.int .i64 x256000_2, .int .u64 x256001_2] (0, 0) _ rfl (by refine zM ?_; refine blk_put (cs := #[.int .i64 x256000_2, .int .u64 0]) ?_ 1 _ rfl; refine zM ?_; refine blk_put (cs := #[.int .i64 0, .int .u64 0]) ?_ 0 _ rfl; refine zM ?_; exact BK249.out) Tryd.underlying59 rfl (by kernel_rfl)) rfl ?_
      exact ⟨by first | rfl | (simp [errW_none, errW_some] <;> rfl) | (simp [*, errW_none, errW_some] <;> rfl), zo HB⟩

/-! ### sequiturref27_More: function 32 -/
def sequiturref27_More.f (k : Nat) (a0_0 : Int) (a0_1 : Int) (a0_2 : Int) (a0_3 : Int) (a1 : Int) (a2 : Int) : Option (Int × Int × Int × Int) := (sequiturref01_Times.f k a1 a2).bind fun bt265 => ((sequiturref01_Of.f bt265.1).bind fun bt268 => ((sequiturref01_Plus.f a0_0 a0_1 bt268.1 bt268.2).bind fun bt270 => ((sequiturref01_Plus.f a0_2 a0_3 0 bt265.2).bind fun bt272 => (some (bt270.1, bt270.2, bt272.1, bt272.2)))))
theorem sequiturref27_More.mono : ∀ a0 a1 a2 a3 a4 a5 k, LeO (sequiturref27_More.f k a0 a1 a2 a3 a4 a5) (sequiturref27_More.f (k + 1) a0 a1 a2 a3 a4 a5) := by
 intro a0 a1 a2 a3 a4 a5 k
 unfold sequiturref27_More.f
 repeat' first
   | (with_reducible exact sequiturref01_Times.mono _ _ _)
   | (with_reducible exact LeO.refl _)
   | (with_reducible exact LeO.none _)
   | (with_reducible refine LeO.ite ?_ ?_)
   | (with_reducible refine LeO.bind ?_ (fun _ => ?_))
   | exact sequiturref01_Times.mono _ _ _
   | exact LeO.none _
   | refine LeO.ite ?_ ?_
   | refine LeO.bind ?_ (fun _ => ?_)
def sequiturref27_More.T2 : Bool × List (List Nat × List Nat) := (true, [([], []), ([0], [0]), ([], []), ([2], [2]), ([3], [3]), ([1, 4, 4], [1, 4]), ([0, 1, 2, 3, 4, 5], []), ([6, 5, 5, 0, 1, 2, 3, 4, 5], [5, 6])])
def sequiturref27_More.B2 : List Nat := [0, 1, 0, 4, 12, 31, 63, 127]
theorem sequiturref27_More.tab2 : rtab .any (opsOf Tryd.f32 2) = sequiturref27_More.T2 := by kernel_rfl
theorem sequiturref27_More.bits2 : waitsOk sequiturref27_More.T2.2 sequiturref27_More.B2 = true := by kernel_rfl
set_option maxHeartbeats 8000000 in
set_option maxRecDepth 100000 in
theorem sequiturref27_More.calls (k : Nat) (a0_0 : Int) (a0_1 : Int) (a0_2 : Int) (a0_3 : Int) (a1 : Int) (a2 : Int) (r1 : Int) (r2 : Int) (r3 : Int) (r4 : Int) (w : World) (h : sequiturref27_More.f k a0_0 a0_1 a0_2 a0_3 a1 a2 = some (r1, r2, r3, r4)) :
  Calls Tryd.prog 32 #[.agg #[.int .i64 a0_0, .int .u64 a0_1, .int .i64 a0_2, .int .u64 a0_3], .int .i64 a1, .int .i64 a2] w fun e w' => e = .returned (.agg #[.int .i64 r1, .int .u64 r2, .int .i64 r3, .int .u64 r4]) ∧ Below w.heap.size w w' := by
 have hu61 := Tryd.underlying61
 have hu59 := Tryd.underlying59
 have HB := zK (Below.refl w.heap.size w)
 have H : ((sequiturref01_Times.f k a1 a2).bind fun bt265 => ((sequiturref01_Of.f bt265.1).bind fun bt268 => ((sequiturref01_Plus.f a0_0 a0_1 bt268.1 bt268.2).bind fun bt270 => ((sequiturref01_Plus.f a0_2 a0_3 0 bt265.2).bind fun bt272 => (some (bt270.1, bt270.2, bt272.1, bt272.2)))))) = some (r1, r2, r3, r4) := h
 clear h
 replace H := Option.bind_eq_some_iff.mp H
 obtain ⟨⟨t265, t266⟩, A40, H⟩ := H
 replace H : ((sequiturref01_Of.f t265).bind fun bt268 => ((sequiturref01_Plus.f a0_0 a0_1 bt268.1 bt268.2).bind fun bt270 => ((sequiturref01_Plus.f a0_2 a0_3 0 t266).bind fun bt272 => (some (bt270.1, bt270.2, bt272.1, bt272.2))))) = some (r1, r2, r3, r4) := H
 have A4 := zK A40
 clear A40
 replace H := Option.bind_eq_some_iff.mp H
 obtain ⟨⟨t268, t269⟩, A50, H⟩ := H
 replace H : ((sequiturref01_Plus.f a0_0 a0_1 t268 t269).bind fun bt270 => ((sequiturref01_Plus.f a0_2 a0_3 0 t266).bind fun bt272 => (some (bt270.1, bt270.2, bt272.1, bt272.2)))) = some (r1, r2, r3, r4) := H
 have A5 := zK A50
 clear A50
 replace H := Option.bind_eq_some_iff.mp H
 obtain ⟨⟨t270, t271⟩, A60, H⟩ := H
 replace H : ((sequiturref01_Plus.f a0_2 a0_3 0 t266).bind fun bt272 => (some (t270, t271, bt272.1, bt272.2))) = some (r1, r2, r3, r4) := H
 have A6 := zK A60
 clear A60
 replace H := Option.bind_eq_some_iff.mp H
 obtain ⟨⟨t272, t273⟩, A70, H⟩ := H
 replace H : (some (t270, t271, t272, t273)) = some (r1, r2, r3, r4) := H
 have A7 := zK A70
 clear A70
 simp only [Option.some.injEq, Prod.mk.injEq] at H
 obtain ⟨rfl, rfl, rfl, rfl⟩ := H
 go_enter Tryd.func32, Tryd.ntmps32
 try go_wp2_with (first | ((with_reducible refine gate_dst (N := 3) rfl ?_); refine box_event ?hg (N := 3) ?hd (cs := #[.int .i64 a0_0, .int .u64 a0_1, .int .i64 a0_2, .int .u64 a0_3]) (t := 61) ?hr ?_; (case hd => rfl); (case hg => rfl); (case hr => first | (go_simp; done) | (go_simp; rfl)); intro gb263 hg w8 hbox hb; have BK263 := zK (hbox); have GW263 := zK ((by rw [hg]; exact (below_size (zo HB)) : w.heap.size ≤ gb263)); have GE263 := zK ((by rw [hg]; exact (below_size (zo HB)) : w.heap.size ≤ gb263)); replace HB := zK (below_step (zo HB) hb); clear hb hbox hg) | ((with_reducible refine gate_dst (N := 6) rfl ?_); refine box_event ?hg (N := 6) ?hd (cs := #[.int .i64 0, .int .u64 0, .int .i64 0, .int .u64 0]) (t := 61) ?hr ?_; (case hd => rfl); (case hg => rfl); (case hr => first | (go_simp; done) | (go_simp; rfl)); intro gb264 hg w9 hbox hb; have BK264 := zK (hbox); have GW264 := zK ((by rw [hg]; exact (below_size (zo HB)) : w.heap.size ≤ gb264)); have GE264 := zK ((by rw [hg]; exact (below_size (zo HB)) : w.heap.size ≤ gb264)); replace HB := zK (below_step (zo HB) hb); have NB263_264 := zK ((by rw [hg]; exact Nat.ne_of_lt (blk_lt (g := gb263) (o := .cells #[.int .i64 a0_0, .int .u64 a0_1, .int .i64 a0_2, .int .u64 a0_3] 61 (0, 0)) (zb BK263)) : gb263 ≠ gb264)); have NB264_263 := zK ((by rw [hg]; exact Nat.ne_of_gt (blk_lt (g := gb263) (o := .cells #[.int .i64 a0_0, .int .u64 a0_1, .int .i64 a0_2, .int .u64 a0_3] 61 (0, 0)) (zb BK263)) : gb264 ≠ gb263)); replace BK263 := zK (blk_below (g := gb263) (o := .cells #[.int .i64 a0_0, .int .u64 a0_1, .int .i64 a0_2, .int .u64 a0_3] 61 (0, 0)) (zb BK263) hb); clear hb hbox hg) | ((with_reducible refine zC (f := 50) rfl ?_); refine goesL_ (some 10) rfl rfl Tryd.func50 (by kernel_rfl) rfl #[.int .i64 a1, .int .i64 a2] rfl (by (try simp only [List.map_toArray, List.map_cons, List.map_nil]); first | done | rfl | (simp only [List.length_drop, List.length_take]; rfl)) ?_; (with_reducible refine (sequiturref01_Times.calls k a1 a2 t265 t266 _ A4.out).mono ?_); rintro e w10 ⟨rfl, hb⟩; refine ⟨_, rfl, ?_⟩; replace BK263 := zK (blk_below (g := gb263) (o := .cells #[.int .i64 a0_0, .int .u64 a0_1, .int .i64 a0_2, .int .u64 a0_3] 61 (0, 0)) (zb BK263) hb); replace BK264 := zK (blk_below (g := gb264) (o := .cells #[.int .i64 0, .int .u64 0, .int .i64 0, .int .u64 0] 61 (0, 0)) (zb BK264) hb); replace HB := zK (below_step (zo HB) hb); (try clear hb); (try clear hb2); (try clear hk); (try clear hi)) | ((with_reducible refine gate_dst (N := 7) rfl ?_); refine box_event ?hg (N := 7) ?hd (cs := #[.int .i64 0, .int .u64 0]) (t := 59) ?hr ?_; (case hd => rfl); (case hg => rfl); (case hr => first | (go_simp; done) | (go_simp; rfl)); intro gb267 hg w11 hbox hb; have BK267 := zK (hbox); have GW267 := zK ((by rw [hg]; exact (below_size (zo HB)) : w.heap.size ≤ gb267)); have GE267 := zK ((by rw [hg]; exact (below_size (zo HB)) : w.heap.size ≤ gb267)); replace HB := zK (below_step (zo HB) hb); have NB263_267 := zK ((by rw [hg]; exact Nat.ne_of_lt (blk_lt (g := gb263) (o := .cells #[.int .i64 a0_0, .int .u64 a0_1, .int .i64 a0_2, .int .u64 a0_3] 61 (0, 0)) (zb BK263)) : gb263 ≠ gb267)); have NB267_263 := zK ((by rw [hg]; exact Nat.ne_of_gt (blk_lt (g := gb263) (o := .cells #[.int .i64 a0_0, .int .u64 a0_1, .int .i64 a0_2, .int .u64 a0_3] 61 (0, 0)) (zb BK263)) : gb267 ≠ gb263)); replace BK263 := zK (blk_below (g := gb263) (o := .cells #[.int .i64 a0_0, .int .u64 a0_1, .int .i64 a0_2, .int .u64 a0_3] 61 (0, 0)) (zb BK263) hb); have NB264_267 := zK ((by rw [hg]; exact Nat.ne_of_lt (blk_lt (g := gb264) (o := .cells #[.int .i64 0, .int .u64 0, .int .i64 0, .int .u64 0] 61 (0, 0)) (zb BK264)) : gb264 ≠ gb267)); have NB267_264 := zK ((by rw [hg]; exact Nat.ne_of_gt (blk_lt (g := gb264) (o := .cells #[.int .i64 0, .int .u64 0, .int .i64 0, .int .u64 0] 61 (0, 0)) (zb BK264)) : gb267 ≠ gb264)); replace BK264 := zK (blk_below (g := gb264) (o := .cells #[.int .i64 0, .int .u64 0, .int .i64 0, .int .u64 0] 61 (0, 0)) (zb BK264) hb); clear hb hbox hg; have hnb12 := NB267_263.out; have hnc12 := NB263_267.out; have hnb13 := NB267_264.out; have hnc13 := NB264_267.out; have hcz14_0 : w11.cell? ⟨gb267, 0, none⟩ = some (.int .i64 0) := (blk_cell BK267.out 0).trans rfl; have hcz14_1 : w11.cell? ⟨gb267, 1, none⟩ = some (.int .u64 0) := (blk_cell BK267.out 1).trans rfl; have hfz14_0 := blk_frozen BK267.out 0; have hfz14_1 := blk_frozen BK267.out 1))
 have n0_ : Aside0 (((w11.setCell ⟨gb267, 0, none⟩ (.int .i64 t265)).setCell ⟨gb267, 1, none⟩ (.int .u64 t266)).heap[gb263]? = some (.cells #[.int .i64 a0_0, .int .u64 a0_1, .int .i64 a0_2, .int .u64 a0_3] 61 (0, 0))) := ⟨zb BK263⟩
 have n1_ : Aside0 (((w11.setCell ⟨gb267, 0, none⟩ (.int .i64 t265)).setCell ⟨gb267, 1, none⟩ (.int .u64 t266)).heap[gb264]? = some (.cells #[.int .i64 0, .int .u64 0, .int .i64 0, .int .u64 0] 61 (0, 0))) := ⟨zb BK264⟩
 have n2_ : Aside0 (((w11.setCell ⟨gb267, 0, none⟩ (.int .i64 t265)).setCell ⟨gb267, 1, none⟩ (.int .u64 t266)).heap[gb267]? = some (.cells #[.int .i64 t265, .int .u64 t266] 59 (0, 0))) := ⟨by refine zM ?_; refine blk_put (cs := #[.int .i64 t265, .int .u64 0]) ?_ 1 _ rfl; refine zM ?_; refine blk_put (cs := #[.int .i64 0, .int .u64 0]) ?_ 0 _ rfl; refine zM ?_; exact BK267.out⟩
 have n3_ : Aside0 (Below w.heap.size w ((w11.setCell ⟨gb267, 0, none⟩ (.int .i64 t265)).setCell ⟨gb267, 1, none⟩ (.int .u64 t266))) := ⟨zo HB⟩
 (try clear BK263)
 (try clear BK264)
 (try clear BK267)
 (try clear HB)
 generalize ((w11.setCell ⟨gb267, 0, none⟩ (.int .i64 t265)).setCell ⟨gb267, 1, none⟩ (.int .u64 t266)) = w15 at n0_ n1_ n2_ n3_ ⊢
 have BK263 := n0_
 have BK264 := n1_
 have BK267 := n2_
 have HB := n3_
 clear n0_ n1_ n2_ n3_
 replace BK263 := zK (zD BK263.out)
 replace BK264 := zK (zD BK264.out)
 replace BK267 := zK (zD BK267.out)
 replace HB := zK (yD HB.out)
 refine start_ (n := 8) (S := fun w' => w'.cell? ⟨gb263, 0, none⟩ = some (.int .i64 a0_0) ∧ w'.cell? ⟨gb263, 1, none⟩ = some (.int .u64 a0_1) ∧ w'.cell? ⟨gb263, 2, none⟩ = some (.int .i64 a0_2) ∧ w'.cell? ⟨gb263, 3, none⟩ = some (.int .u64 a0_3) ∧ w'.cell? ⟨gb267, 0, none⟩ = some (.int .i64 t265) ∧ w'.cell? ⟨gb267, 1, none⟩ = some (.int .u64 t266)) (ds := [7]) #[false, false, false, false, false, false, false, false] (by kernel_rfl) rfl rfl ⟨(blk_cell BK263.out 0).trans rfl, (blk_cell BK263.out 1).trans rfl, (blk_cell BK263.out 2).trans rfl, (blk_cell BK263.out 3).trans rfl, (blk_cell BK267.out 0).trans rfl, (blk_cell BK267.out 1).trans rfl⟩ (fun hHeld => ?_); refine with_tabW sequiturref27_More.tab2 sequiturref27_More.bits2 (fun HT_ HW_ => ?_)
 generalize w15.drew = w16 at BK263 BK264 BK267 HB hHeld ⊢
 refine pure_ (i := 0) (N := some 11) (v := ?_) (a' := ?_) #[true, false, false, false, false, false, false, false] rfl rfl (any_of HT_.out (by kernel_rfl)) (fun _ _ _ h => h) (Or.inl ⟨by rfl, ?_⟩) ?_ ?_
 rotate_left
 ·intro w'
  go_simp
  with_reducible rfl
 rotate_left
 ·simp only [Act.put, List.setIfInBounds_toArray, List.set_cons_zero, List.set_cons_succ, i64_w, i32_w]
  rfl
 refine pure_ (i := 2) (N := some 13) (v := ?_) (a' := ?_) #[true, false, true, false, false, false, false, false] rfl rfl (any_of HT_.out (by kernel_rfl)) (fun _ _ _ h => h) (Or.inl ⟨by rfl, ?_⟩) ?_ ?_
 rotate_left
 ·intro w'
  go_simp
  with_reducible rfl
 rotate_left
 ·simp only [Act.put, List.setIfInBounds_toArray, List.set_cons_zero, List.set_cons_succ, i64_w, i32_w]
  rfl
 refine take_ (i := 1) (N := some 12) (v := ?_) (a' := ?_) #[true, true, true, false, false, false, false, false] rfl rfl (take_ofW HT_.out HW_.out (by kernel_rfl)) (fun _ _ _ h => h) (Or.inl ⟨by rfl, ?_⟩) hHeld ?_ ?_
 rotate_left
 ·rintro w' ⟨s0, s1, s2, s3, s4, s5⟩
  go_simp
  with_reducible rfl
 rotate_left
 ·simp only [Act.put, List.setIfInBounds_toArray, List.set_cons_zero, List.set_cons_succ, i64_w, i32_w]
  rfl
 refine take_ (i := 3) (N := some 14) (v := ?_) (a' := ?_) #[true, true, true, true, false, false, false, false] rfl rfl (take_ofW HT_.out HW_.out (by kernel_rfl)) (fun _ _ _ h => h) (Or.inl ⟨by rfl, ?_⟩) hHeld ?_ ?_
 rotate_left
 ·rintro w' ⟨s0, s1, s2, s3, s4, s5⟩
  go_simp
  with_reducible rfl
 rotate_left
 ·simp only [Act.put, List.setIfInBounds_toArray, List.set_cons_zero, List.set_cons_succ, i64_w, i32_w]
  rfl
 refine one_ (i := 4) (N := some 15) #[true, true, true, true, true, false, false, false] rfl rfl (one_of HT_.out (by kernel_rfl)) (by decide) (fun K hK => ?_)
 refine goes_ Tryd.func52 (by kernel_rfl) rfl #[.int .i64 t265] (by rfl) rfl rfl (by (try simp only [List.map_toArray, List.map_cons, List.map_nil]); first | done | rfl | (simp only [List.length_drop, List.length_take]; rfl)) ?_
 with_reducible refine (sequiturref01_Of.calls t265 t268 t269 _ A5.out).mono ?_
 rintro e w17 ⟨rfl, hb⟩
 refine ⟨_, rfl, ?_⟩
 replace BK263 := zK (blk_below (g := gb263) (o := .cells #[.int .i64 a0_0, .int .u64 a0_1, .int .i64 a0_2, .int .u64 a0_3] 61 (0, 0)) (zb BK263) hb)
 replace BK264 := zK (blk_below (g := gb264) (o := .cells #[.int .i64 0, .int .u64 0, .int .i64 0, .int .u64 0] 61 (0, 0)) (zb BK264) hb)
 replace BK267 := zK (blk_below (g := gb267) (o := .cells #[.int .i64 t265, .int .u64 t266] 59 (0, 0)) (zb BK267) hb)
 replace HB := zK (below_step (zo HB) hb)
 (try clear hb)
 (try clear hb2)
 (try clear hk)
 (try clear hi)
 refine hK.out _ _ ⟨(blk_cell BK263.out 0).trans rfl, (blk_cell BK263.out 1).trans rfl, (blk_cell BK263.out 2).trans rfl, (blk_cell BK263.out 3).trans rfl, (blk_cell BK267.out 0).trans rfl, (blk_cell BK267.out 1).trans rfl⟩ (fun hHeld => ?_)
 clear hK K
 refine norm_ (a' := ?_) ?_ ?_
 rotate_left
 ·show Act.put _ (some 15) _ = _
  simp only [Act.put, List.setIfInBounds_toArray, List.set_cons_zero, List.set_cons_succ, i64_w, i32_w]
  rfl
 refine one_ (i := 5) (N := some 16) #[true, true, true, true, true, true, false, false] rfl rfl (one_of HT_.out (by kernel_rfl)) (by decide) (fun K hK => ?_)
 refine goes_ Tryd.func51 (by kernel_rfl) rfl #[.agg #[.int .i64 a0_0, .int .u64 a0_1], .agg #[.int .i64 t268, .int .u64 t269]] (by rfl) rfl rfl (by (try simp only [List.map_toArray, List.map_cons, List.map_nil]); first | done | rfl | (simp only [List.length_drop, List.length_take]; rfl)) ?_
 with_reducible refine (sequiturref01_Plus.calls a0_0 a0_1 t268 t269 t270 t271 _ A6.out).mono ?_
 rintro e w18 ⟨rfl, hb⟩
 refine ⟨_, rfl, ?_⟩
 replace BK263 := zK (blk_below (g := gb263) (o := .cells #[.int .i64 a0_0, .int .u64 a0_1, .int .i64 a0_2, .int .u64 a0_3] 61 (0, 0)) (zb BK263) hb)
 replace BK264 := zK (blk_below (g := gb264) (o := .cells #[.int .i64 0, .int .u64 0, .int .i64 0, .int .u64 0] 61 (0, 0)) (zb BK264) hb)
 replace BK267 := zK (blk_below (g := gb267) (o := .cells #[.int .i64 t265, .int .u64 t266] 59 (0, 0)) (zb BK267) hb)
 replace HB := zK (below_step (zo HB) hb)
 (try clear hb)
 (try clear hb2)
 (try clear hk)
 (try clear hi)
 refine hK.out _ _ ⟨(blk_cell BK263.out 0).trans rfl, (blk_cell BK263.out 1).trans rfl, (blk_cell BK263.out 2).trans rfl, (blk_cell BK263.out 3).trans rfl, (blk_cell BK267.out 0).trans rfl, (blk_cell BK267.out 1).trans rfl⟩ (fun hHeld => ?_)
 clear hK K
 refine norm_ (a' := ?_) ?_ ?_
 rotate_left
 ·show Act.put _ (some 16) _ = _
  simp only [Act.put, List.setIfInBounds_toArray, List.set_cons_zero, List.set_cons_succ, i64_w, i32_w]
  rfl
 refine pure_ (i := 6) (N := some 17) (v := ?_) (a' := ?_) #[true, true, true, true, true, true, true, false] rfl rfl (any_of HT_.out (by kernel_rfl)) (fun _ _ _ h => h) (Or.inl ⟨by rfl, ?_⟩) ?_ ?_
 rotate_left
 ·intro w'
  go_simp
  with_reducible rfl
 rotate_left
 ·simp only [Act.put, List.setIfInBounds_toArray, List.set_cons_zero, List.set_cons_succ, i64_w, i32_w]
  rfl
 refine last_ (i := 7) (N := none) #[true, true, true, true, true, true, true, true] rfl rfl (one_of HT_.out (by kernel_rfl)) (by decide) (fun K hK => ?_)
 have hs19 : w18.cell? ⟨gb263, 0, none⟩ = some (.int .i64 a0_0) := (blk_cell BK263.out 0).trans rfl
 have hfs19 := blk_frozen BK263.out 0
 have hns19_1 := NB264_263.out
 have hns19_2 := NB267_263.out
 have hms19_1 := NB263_264.out
 have hms19_2 := NB263_267.out
 have hs20 : w18.cell? ⟨gb263, 1, none⟩ = some (.int .u64 a0_1) := (blk_cell BK263.out 1).trans rfl
 have hfs20 := blk_frozen BK263.out 1
 have hns20_1 := NB264_263.out
 have hns20_2 := NB267_263.out
 have hms20_1 := NB263_264.out
 have hms20_2 := NB263_267.out
 refine skip_ (w1 := ?_) (by rfl) rfl ?_ ?_
 rotate_left
 ·go_simp
  rfl
 refine hK.out _ _ ?_
 clear hK K
 refine done_ (done_of HT_.out (by kernel_rfl)) ?_
 have hnb21 := NB263_264.out
 have hnc21 := NB264_263.out
 have hcz22_0 : w18.cell? ⟨gb263, 0, none⟩ = some (.int .i64 a0_0) := (blk_cell BK263.out 0).trans rfl
 have hcz22_1 : w18.cell? ⟨gb263, 1, none⟩ = some (.int .u64 a0_1) := (blk_cell BK263.out 1).trans rfl
 have hcz22_2 : w18.cell? ⟨gb263, 2, none⟩ = some (.int .i64 a0_2) := (blk_cell BK263.out 2).trans rfl
 have hcz22_3 : w18.cell? ⟨gb263, 3, none⟩ = some (.int .u64 a0_3) := (blk_cell BK263.out 3).trans rfl
 have hfz22_0 := blk_frozen BK263.out 0
 have hfz22_1 := blk_frozen BK263.out 1
 have hfz22_2 := blk_frozen BK263.out 2
 have hfz22_3 := blk_frozen BK263.out 3
 have hcz23_0 : w18.cell? ⟨gb267, 0, none⟩ = some (.int .i64 t265) := (blk_cell BK267.out 0).trans rfl
 have hcz23_1 : w18.cell? ⟨gb267, 1, none⟩ = some (.int .u64 t266) := (blk_cell BK267.out 1).trans rfl
 have hfz23_0 := blk_frozen BK267.out 0
 have hfz23_1 := blk_frozen BK267.out 1
 try go_wp2_with (first | ((with_reducible refine zC (f := 51) rfl ?_); refine goesL_ (some 23) rfl rfl Tryd.func51 (by kernel_rfl) rfl #[.agg #[.int .i64 a0_2, .int .u64 a0_3], .agg #[.int .i64 0, .int .u64 t266]] rfl (by (try simp only [List.map_toArray, List.map_cons, List.map_nil]); first | done | rfl | (simp only [List.length_drop, List.length_take]; rfl)) ?_; (with_reducible refine (sequiturref01_Plus.calls a0_2 a0_3 0 t266 t272 t273 _ A7.out).mono ?_); rintro e w24 ⟨rfl, hb⟩; refine ⟨_, rfl, ?_⟩; replace BK263 := zK (blk_below (g := gb263) (o := .cells #[.int .i64 t270, .int .u64 t271, .int .i64 a0_2, .int .u64 a0_3] 61 (0, 0)) (by refine zM ?_; refine blk_put (cs := #[.int .i64 t270, .int .u64 a0_1, .int .i64 a0_2, .int .u64 a0_3]) ?_ 1 _ rfl; refine zM ?_; refine blk_put (cs := #[.int .i64 a0_0, .int .u64 a0_1, .int .i64 a0_2, .int .u64 a0_3]) ?_ 0 _ rfl; refine zM ?_; exact BK263.out) hb); replace BK264 := zK (blk_below (g := gb264) (o := .cells #[.int .i64 0, .int .u64 0, .int .i64 0, .int .u64 0] 61 (0, 0)) (zb BK264) hb); replace BK267 := zK (blk_below (g := gb267) (o := .cells #[.int .i64 t265, .int .u64 t266] 59 (0, 0)) (zb BK267) hb); replace HB := zK (below_step (zo HB) hb); (try clear hb); (try clear hb2); (try clear hk); (try clear hi); have hcz25_0 : w24.cell? ⟨gb263, 0, none⟩ = some (.int .i64 t270) := (blk_cell BK263.out 0).trans rfl; have hcz25_1 : w24.cell? ⟨gb263, 1, none⟩ = some (.int .u64 t271) := (blk_cell BK263.out 1).trans rfl; have hcz25_2 : w24.cell? ⟨gb263, 2, none⟩ = some (.int .i64 a0_2) := (blk_cell BK263.out 2).trans rfl; have hcz25_3 : w24.cell? ⟨gb263, 3, none⟩ = some (.int .u64 a0_3) := (blk_cell BK263.out 3).trans rfl; have hfz25_0 := blk_frozen BK263.out 0; have hfz25_1 := blk_frozen BK263.out 1; have hfz25_2 := blk_frozen BK263.out 2; have hfz25_3 := blk_frozen BK263.out 3; have hcz26_0 : w24.cell? ⟨gb264, 0, none⟩ = some (.int .i64 0) := (blk_cell BK264.out 0).trans rfl; have hcz26_1 : w24.cell? ⟨gb264, 1, none⟩ = some (.int .u64 0) := (blk_cell BK264.out 1).trans rfl; have hcz26_2 : w24.cell? ⟨gb264, 2, none⟩ = some (.int .i64 0) := (blk_cell BK264.out 2).trans rfl; have hcz26_3 : w24.cell? ⟨gb264, 3, none⟩ = some (.int .u64 0) := (blk_cell BK264.out 3).trans rfl; have hfz26_0 := blk_frozen BK264.out 0; have hfz26_1 := blk_frozen BK264.out 1; have hfz26_2 := blk_frozen BK264.out 2; have hfz26_3 := blk_frozen BK264.out 3))
 refine bodyPost_ret (results_cell_row rfl _ _ gb264 61 #[.int .i64 t270, .int .u64 t271, .int .i64 t272, .int .u64 t273] (0, 0) _ rfl (by refine zM ?_; refine blk_put (cs := #[.int .i64 t270, .int .u64 t271, .int .i64 t272, .int .u64 0]) ?_ 3 _ rfl; refine zM ?_; refine blk_put (cs := #[.int .i64 t270, .int .u64 t271, .int .i64 0, .int .u64 0]) ?_ 2 _ rfl; refine zM ?_; refine blk_put (cs := #[.int .i64 t270, .int .u64 0, .int .i64 0, .int .u64 0]) ?_ 1 _ rfl; refine zM ?_; refine blk_put (cs := #[.int .i64 0, .int .u64 0, .int .i64 0, .int .u64 0]) ?_ 0 _ rfl; refine zM ?_; refine blk_far ?_ NB264_263.out _; refine zM ?_; refine blk_far ?_ NB264_263.out _; refine zM ?_; exact BK264.out) Tryd.underlying61 rfl (by kernel_rfl)) rfl ?_
 exact ⟨by first | rfl | (simp [errW_none, errW_some] <;> rfl) | (simp [*, errW_none, errW_some] <;> rfl), zo HB⟩

/-! ### sequiturref01_Fits: function 53 -/
def sequiturref01_Fits.f (a0_0 : Int) (a0_1 : Int) : Option (Int × Bool) := if a0_0 = 0 then (if (wrap64 (a0_1)) ≥ 0 then (some (wrap64 (a0_1), true)) else (if a0_0 = (-1) then (if (wrap64 (a0_1)) < 0 then (some (wrap64 (a0_1), true)) else (some (0, false))) else (some (0, false)))) else (if a0_0 = (-1) then (if (wrap64 (a0_1)) < 0 then (some (wrap64 (a0_1), true)) else (some (0, false))) else (some (0, false)))
set_option maxHeartbeats 8000000 in
set_option maxRecDepth 100000 in
theorem sequiturref01_Fits.calls (a0_0 : Int) (a0_1 : Int) (r1 : Int) (r2 : Bool) (w : World) (h : sequiturref01_Fits.f a0_0 a0_1 = some (r1, r2)) :
  Calls Tryd.prog 53 #[.agg #[.int .i64 a0_0, .int .u64 a0_1]] w fun e w' => e = .returned (.tuple #[.int .i64 r1, .bool r2]) ∧ Below w.heap.size w w' := by
 have hu59 := Tryd.underlying59
 have HB := zK (Below.refl w.heap.size w)
 have H : (if a0_0 = 0 then (if (wrap64 (a0_1)) ≥ 0 then (some (wrap64 (a0_1), true)) else (if a0_0 = (-1) then (if (wrap64 (a0_1)) < 0 then (some (wrap64 (a0_1), true)) else (some (0, false))) else (some (0, false)))) else (if a0_0 = (-1) then (if (wrap64 (a0_1)) < 0 then (some (wrap64 (a0_1), true)) else (some (0, false))) else (some (0, false)))) = some (r1, r2) := h
 clear h
 by_cases c2 : a0_0 = 0
 ·rw [if_pos c2] at H
  have c2b0 : (a0_0 == 0) = true := beq_iff_eq.mpr c2
  have c2b1 : (a0_0 != 0) = false := bne_eq_false_iff_eq.mpr c2
  clear c2
  by_cases c3 : (wrap64 (a0_1)) ≥ 0
  ·rw [if_pos c3] at H
   have c3b0 : decide (0 ≤ (wrap64 (a0_1))) = true := decide_eq_true c3
   clear c3
   simp only [Option.some.injEq, Prod.mk.injEq] at H
   obtain ⟨rfl, rfl⟩ := H
   go_enter Tryd.func53, Tryd.ntmps53
   go_wp2_with (first | ((with_reducible refine gate_dst (N := 1) rfl ?_); refine box_event ?hg (N := 1) ?hd (cs := #[.int .i64 a0_0, .int .u64 a0_1]) (t := 59) ?hr ?_; (case hd => rfl); (case hg => rfl); (case hr => first | (go_simp; done) | (go_simp; rfl)); intro gb274 hg w4 hbox hb; have BK274 := zK (hbox); have GW274 := zK ((by rw [hg]; exact (below_size (zo HB)) : w.heap.size ≤ gb274)); have GE274 := zK ((by rw [hg]; exact (below_size (zo HB)) : w.heap.size ≤ gb274)); replace HB := zK (below_step (zo HB) hb); clear hb hbox hg; have hcz5_0 : w4.cell? ⟨gb274, 0, none⟩ = some (.int .i64 a0_0) := (blk_cell BK274.out 0).trans rfl; have hcz5_1 : w4.cell? ⟨gb274, 1, none⟩ = some (.int .u64 a0_1) := (blk_cell BK274.out 1).trans rfl; have hfz5_0 := blk_frozen BK274.out 0; have hfz5_1 := blk_frozen BK274.out 1))
   go_ret2
   exact ⟨by first | rfl | (simp [errW_none, errW_some] <;> rfl) | (simp [*, errW_none, errW_some] <;> rfl), zo HB⟩
  ·rw [if_neg c3] at H
   have c3b0 : decide (0 ≤ (wrap64 (a0_1))) = false := decide_eq_false c3
   clear c3
   by_cases c6 : a0_0 = (-1)
   ·rw [if_pos c6] at H
    have c6b0 : (a0_0 == (-1)) = true := beq_iff_eq.mpr c6
    have c6b1 : (a0_0 != (-1)) = false := bne_eq_false_iff_eq.mpr c6
    clear c6
    by_cases c7 : (wrap64 (a0_1)) < 0
    ·rw [if_pos c7] at H
     have c7b0 : decide ((wrap64 (a0_1)) < 0) = true := decide_eq_true c7
     clear c7
     simp only [Option.some.injEq, Prod.mk.injEq] at H
     obtain ⟨rfl, rfl⟩ := H
     go_enter Tryd.func53, Tryd.ntmps53
     go_wp2_with (first | ((with_reducible refine gate_dst (N := 1) rfl ?_); refine box_event ?hg (N := 1) ?hd (cs := #[.int .i64 a0_0, .int .u64 a0_1]) (t := 59) ?hr ?_; (case hd => rfl); (case hg => rfl); (case hr => first | (go_simp; done) | (go_simp; rfl)); intro gb274 hg w8 hbox hb; have BK274 := zK (hbox); have GW274 := zK ((by rw [hg]; exact (below_size (zo HB)) : w.heap.size ≤ gb274)); have GE274 := zK ((by rw [hg]; exact (below_size (zo HB)) : w.heap.size ≤ gb274)); replace HB := zK (below_step (zo HB) hb); clear hb hbox hg; have hcz9_0 : w8.cell? ⟨gb274, 0, none⟩ = some (.int .i64 a0_0) := (blk_cell BK274.out 0).trans rfl; have hcz9_1 : w8.cell? ⟨gb274, 1, none⟩ = some (.int .u64 a0_1) := (blk_cell BK274.out 1).trans rfl; have hfz9_0 := blk_frozen BK274.out 0; have hfz9_1 := blk_frozen BK274.out 1))
     go_ret2
     exact ⟨by first | rfl | (simp [errW_none, errW_some] <;> rfl) | (simp [*, errW_none, errW_some] <;> rfl), zo HB⟩
    ·rw [if_neg c7] at H
     have c7b0 : decide ((wrap64 (a0_1)) < 0) = false := decide_eq_false c7
     clear c7
     simp only [Option.some.injEq, Prod.mk.injEq] at H
     obtain ⟨rfl, rfl⟩ := H
     go_enter Tryd.func53, Tryd.ntmps53
     go_wp2_with (first | ((with_reducible refine gate_dst (N := 1) rfl ?_); refine box_event ?hg (N := 1) ?hd (cs := #[.int .i64 a0_0, .int .u64 a0_1]) (t := 59) ?hr ?_; (case hd => rfl); (case hg => rfl); (case hr => first | (go_simp; done) | (go_simp; rfl)); intro gb274 hg w10 hbox hb; have BK274 := zK (hbox); have GW274 := zK ((by rw [hg]; exact (below_size (zo HB)) : w.heap.size ≤ gb274)); have GE274 := zK ((by rw [hg]; exact (below_size (zo HB)) : w.heap.size ≤ gb274)); replace HB := zK (below_step (zo HB) hb); clear hb hbox hg; have hcz11_0 : w10.cell? ⟨gb274, 0, none⟩ = some (.int .i64 a0_0) := (blk_cell BK274.out 0).trans rfl; have hcz11_1 : w10.cell? ⟨gb274, 1, none⟩ = some (.int .u64 a0_1) := (blk_cell BK274.out 1).trans rfl; have hfz11_0 := blk_frozen BK274.out 0; have hfz11_1 := blk_frozen BK274.out 1))
     go_ret2
     exact ⟨by first | rfl | (simp [errW_none, errW_some] <;> rfl) | (simp [*, errW_none, errW_some] <;> rfl), zo HB⟩
   ·rw [if_neg c6] at H
    have c6b0 : (a0_0 == (-1)) = false := beq_eq_false_iff_ne.mpr c6
    have c6b1 : (a0_0 != (-1)) = true := bne_iff_ne.mpr c6
    simp only [Option.some.injEq, Prod.mk.injEq] at H
    obtain ⟨rfl, rfl⟩ := H
    go_enter Tryd.func53, Tryd.ntmps53
    go_wp2_with (first | ((with_reducible refine gate_dst (N := 1) rfl ?_); refine box_event ?hg (N := 1) ?hd (cs := #[.int .i64 a0_0, .int .u64 a0_1]) (t := 59) ?hr ?_; (case hd => rfl); (case hg => rfl); (case hr => first | (go_simp; done) | (go_simp; rfl)); intro gb274 hg w12 hbox hb; have BK274 := zK (hbox); have GW274 := zK ((by rw [hg]; exact (below_size (zo HB)) : w.heap.size ≤ gb274)); have GE274 := zK ((by rw [hg]; exact (below_size (zo HB)) : w.heap.size ≤ gb274)); replace HB := zK (below_step (zo HB) hb); clear hb hbox hg; have hcz13_0 : w12.cell? ⟨gb274, 0, none⟩ = some (.int .i64 a0_0) := (blk_cell BK274.out 0).trans rfl; have hcz13_1 : w12.cell? ⟨gb274, 1, none⟩ = some (.int .u64 a0_1) := (blk_cell BK274.out 1).trans rfl; have hfz13_0 := blk_frozen BK274.out 0; have hfz13_1 := blk_frozen BK274.out 1))
    go_ret2
    exact ⟨by first | rfl | (simp [errW_none, errW_some] <;> rfl) | (simp [*, errW_none, errW_some] <;> rfl), zo HB⟩
 ·rw [if_neg c2] at H
  have c2b0 : (a0_0 == 0) = false := beq_eq_false_iff_ne.mpr c2
  have c2b1 : (a0_0 != 0) = true := bne_iff_ne.mpr c2
  by_cases c14 : a0_0 = (-1)
  ·rw [if_pos c14] at H
   have c14b0 : (a0_0 == (-1)) = true := beq_iff_eq.mpr c14
   have c14b1 : (a0_0 != (-1)) = false := bne_eq_false_iff_eq.mpr c14
   clear c14
   by_cases c15 : (wrap64 (a0_1)) < 0
   ·rw [if_pos c15] at H
    have c15b0 : decide ((wrap64 (a0_1)) < 0) = true := decide_eq_true c15
    clear c15
    simp only [Option.some.injEq, Prod.mk.injEq] at H
    obtain ⟨rfl, rfl⟩ := H
    go_enter Tryd.func53, Tryd.ntmps53
    go_wp2_with (first | ((with_reducible refine gate_dst (N := 1) rfl ?_); refine box_event ?hg (N := 1) ?hd (cs := #[.int .i64 a0_0, .int .u64 a0_1]) (t := 59) ?hr ?_; (case hd => rfl); (case hg => rfl); (case hr => first | (go_simp; done) | (go_simp; rfl)); intro gb274 hg w16 hbox hb; have BK274 := zK (hbox); have GW274 := zK ((by rw [hg]; exact (below_size (zo HB)) : w.heap.size ≤ gb274)); have GE274 := zK ((by rw [hg]; exact (below_size (zo HB)) : w.heap.size ≤ gb274)); replace HB := zK (below_step (zo HB) hb); clear hb hbox hg; have hcz17_0 : w16.cell? ⟨gb274, 0, none⟩ = some (.int .i64 a0_0) := (blk_cell BK274.out 0).trans rfl; have hcz17_1 : w16.cell? ⟨gb274, 1, none⟩ = some (.int .u64 a0_1) := (blk_cell BK274.out 1).trans rfl; have hfz17_0 := blk_frozen BK274.out 0; have hfz17_1 := blk_frozen BK274.out 1))
    go_ret2
    exact ⟨by first | rfl | (simp [errW_none, errW_some] <;> rfl) | (simp [*, errW_none, errW_some] <;> rfl), zo HB⟩
   ·rw [if_neg c15] at H
    have c15b0 : decide ((wrap64 (a0_1)) < 0) = false := decide_eq_false c15
    clear c15
    simp only [Option.some.injEq, Prod.mk.injEq] at H
    obtain ⟨rfl, rfl⟩ := H
    go_enter Tryd.func53, Tryd.ntmps53
    go_wp2_with (first | ((with_reducible refine gate_dst (N := 1) rfl ?_); refine box_event ?hg (N := 1) ?hd (cs := #[.int .i64 a0_0, .int .u64 a0_1]) (t := 59) ?hr ?_; (case hd => rfl); (case hg => rfl); (case hr => first | (go_simp; done) | (go_simp; rfl)); intro gb274 hg w18 hbox hb; have BK274 := zK (hbox); have GW274 := zK ((by rw [hg]; exact (below_size (zo HB)) : w.heap.size ≤ gb274)); have GE274 := zK ((by rw [hg]; exact (below_size (zo HB)) : w.heap.size ≤ gb274)); replace HB := zK (below_step (zo HB) hb); clear hb hbox hg; have hcz19_0 : w18.cell? ⟨gb274, 0, none⟩ = some (.int .i64 a0_0) := (blk_cell BK274.out 0).trans rfl; have hcz19_1 : w18.cell? ⟨gb274, 1, none⟩ = some (.int .u64 a0_1) := (blk_cell BK274.out 1).trans rfl; have hfz19_0 := blk_frozen BK274.out 0; have hfz19_1 := blk_frozen BK274.out 1))
    go_ret2
    exact ⟨by first | rfl | (simp [errW_none, errW_some] <;> rfl) | (simp [*, errW_none, errW_some] <;> rfl), zo HB⟩
  ·rw [if_neg c14] at H
   have c14b0 : (a0_0 == (-1)) = false := beq_eq_false_iff_ne.mpr c14
   have c14b1 : (a0_0 != (-1)) = true := bne_iff_ne.mpr c14
   simp only [Option.some.injEq, Prod.mk.injEq] at H
   obtain ⟨rfl, rfl⟩ := H
   go_enter Tryd.func53, Tryd.ntmps53
   go_wp2_with (first | ((with_reducible refine gate_dst (N := 1) rfl ?_); refine box_event ?hg (N := 1) ?hd (cs := #[.int .i64 a0_0, .int .u64 a0_1]) (t := 59) ?hr ?_; (case hd => rfl); (case hg => rfl); (case hr => first | (go_simp; done) | (go_simp; rfl)); intro gb274 hg w20 hbox hb; have BK274 := zK (hbox); have GW274 := zK ((by rw [hg]; exact (below_size (zo HB)) : w.heap.size ≤ gb274)); have GE274 := zK ((by rw [hg]; exact (below_size (zo HB)) : w.heap.size ≤ gb274)); replace HB := zK (below_step (zo HB) hb); clear hb hbox hg; have hcz21_0 : w20.cell? ⟨gb274, 0, none⟩ = some (.int .i64 a0_0) := (blk_cell BK274.out 0).trans rfl; have hcz21_1 : w20.cell? ⟨gb274, 1, none⟩ = some (.int .u64 a0_1) := (blk_cell BK274.out 1).trans rfl; have hfz21_0 := blk_frozen BK274.out 0; have hfz21_1 := blk_frozen BK274.out 1))
   go_ret2
   exact ⟨by first | rfl | (simp [errW_none, errW_some] <;> rfl) | (simp [*, errW_none, errW_some] <;> rfl), zo HB⟩

end Go.Proofs.YtmedciidghmkkaaDoor.PLinTells
