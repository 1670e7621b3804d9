/- What the call of each function that the law reaches comes to: it answers as the plain function of the same name does, wherever that one answers; and the law itself out of its plain form. Written by a program of this session (an extended copy of the printer); no condition but what stands in each theorem. -/
import Derived.Test.YtkfbfgkdabljiaaPShadowSplitsx0
import Derived.Test.YtkfbfgkdabljiaaPShadowSplitsx9
namespace Go.Proofs.Ytkfbfgkdabljiaa.PShadowSplits
open Go.RowKit Go.Proofs.YtkfbfgkdabljiaaW.PrintWords Go.Proofs.YtkfbfgkdabljiaaW.PrintLast Go.Proofs.YtkfbfgkdabljiaaW.PrintMore
open Go.Proofs.YtkfbfgkdabljiaaW.PrintWords renaming blk_drewN → zN, blk_drew → zD, blk_alloc → zA, below_alloc → yA, pw_below_drewN → yN, below_drew1 → yD, below_set → yS, gate_callee → zC
open Go.Proofs.YtkfbfgkdabljiaaW.PrintWords.Aside0 renaming mk → zK
open Bool renaming true → T_, false → F_
open List renaming setIfInBounds_toArray → zt, set_cons_zero → zz, set_cons_succ → zs
attribute [local go_sem] max2_int min2_int max_two min_two max_three min_three max_four min_four   -- for this text's walks alone
set_option linter.unusedVariables false
set_option linter.unusedSimpArgs false

/-! ### sequiturref27_Fits: function 72 -/
def sequiturref27_Fits.f (a0_0 : Int) (a0_1 : Int) (a0_2 : Int) (a0_3 : Int) : Option (Int × Bool) := (sequiturref01_Of.f a0_2).bind fun bt337 => ((sequiturref01_Plus.f a0_0 a0_1 bt337.1 bt337.2).bind fun bt339 => ((sequiturref01_Fits.f bt339.1 bt339.2).bind fun bt342 => (if bt342.2 = true then ((sequiturref01_Fits.f bt342.1 a0_3).bind fun bt344 => (some (bt344.1, bt344.2))) else (some (0, false)))))
def sequiturref27_Fits.T1 : Bool × List (List Nat × List Nat) := (true, [([], []), ([0], [0]), ([], []), ([2], [2]), ([3], [3]), ([4], [4]), ([1, 5, 5], [1, 5]), ([], []), ([7, 6, 6, 0, 1, 2, 3, 4, 5, 6, 7], [6, 7])])
def sequiturref27_Fits.B1 : List Nat := [0, 1, 0, 4, 12, 28, 63, 0, 255]
theorem sequiturref27_Fits.tab1 : rtab .any (opsOf Try.f72 1) = sequiturref27_Fits.T1 := by kernel_rfl
theorem sequiturref27_Fits.bits1 : waitsOk sequiturref27_Fits.T1.2 sequiturref27_Fits.B1 = true := by kernel_rfl
set_option maxHeartbeats 8000000 in
set_option maxRecDepth 100000 in
theorem sequiturref27_Fits.calls (a0_0 : Int) (a0_1 : Int) (a0_2 : Int) (a0_3 : Int) (r1 : Int) (r2 : Bool) (w : World) (h : sequiturref27_Fits.f a0_0 a0_1 a0_2 a0_3 = some (r1, r2)) :
  Calls Try.prog 72 #[.agg #[.int .i64 a0_0, .int .u64 a0_1, .int .i64 a0_2, .int .u64 a0_3]] w fun e w' => e = .returned (.tuple #[.int .i64 r1, .bool r2]) ∧ Below w.heap.size w w' := by
 have hu109 := Try.underlying109
 have hu107 := Try.underlying107
 have HB := zK (Below.refl w.heap.size w)
 have H : ((sequiturref01_Of.f a0_2).bind fun bt337 => ((sequiturref01_Plus.f a0_0 a0_1 bt337.1 bt337.2).bind fun bt339 => ((sequiturref01_Fits.f bt339.1 bt339.2).bind fun bt342 => (if bt342.2 = true then ((sequiturref01_Fits.f bt342.1 a0_3).bind fun bt344 => (some (bt344.1, bt344.2))) else (some (0, false)))))) = some (r1, r2) := h
 clear h; replace H := Option.bind_eq_some_iff.mp H
 obtain ⟨⟨t337, t338⟩, A20, H⟩ := H
 replace H : ((sequiturref01_Plus.f a0_0 a0_1 t337 t338).bind fun bt339 => ((sequiturref01_Fits.f bt339.1 bt339.2).bind fun bt342 => (if bt342.2 = true then ((sequiturref01_Fits.f bt342.1 a0_3).bind fun bt344 => (some (bt344.1, bt344.2))) else (some (0, false))))) = some (r1, r2) := H
 have A2 := zK A20; clear A20; replace H := Option.bind_eq_some_iff.mp H
 obtain ⟨⟨t339, t340⟩, A30, H⟩ := H
 replace H : ((sequiturref01_Fits.f t339 t340).bind fun bt342 => (if bt342.2 = true then ((sequiturref01_Fits.f bt342.1 a0_3).bind fun bt344 => (some (bt344.1, bt344.2))) else (some (0, false)))) = some (r1, r2) := H
 have A3 := zK A30; clear A30; replace H := Option.bind_eq_some_iff.mp H
 obtain ⟨⟨t342, t343⟩, A40, H⟩ := H
 replace H : (if t343 = true then ((sequiturref01_Fits.f t342 a0_3).bind fun bt344 => (some (bt344.1, bt344.2))) else (some (0, false))) = some (r1, r2) := H
 have A4 := zK A40; clear A40
 by_cases c5 : t343 = true
 ·subst c5
  have H1 : ((sequiturref01_Fits.f t342 a0_3).bind fun bt344 => (some (bt344.1, bt344.2))) = some (r1, r2) := by rw [if_pos rfl] at H; exact H
  clear H; have H := H1
  clear H1; replace H := Option.bind_eq_some_iff.mp H
  obtain ⟨⟨t344, t345⟩, A60, H⟩ := H
  replace H : (some (t344, t345)) = some (r1, r2) := H
  have A6 := zK A60; clear A60
  simp only [Option.some.injEq, Prod.mk.injEq] at H
  obtain ⟨rfl, rfl⟩ := H
  go_enter Try.func72, Try.ntmps72
  try go_wp2_with (first | ((with_reducible refine gate_dst (N := 1) rfl ?_); refine box_event ?hg (N := 1) ?hd (cs := #[.int .i64 a0_0, .int .u64 a0_1, .int .i64 a0_2, .int .u64 a0_3]) (t := 109) ?hr ?_; (case hd => rfl); (case hg => rfl); (case hr => first | (go_simp; done) | (go_simp; rfl)); intro gb336 hg w7 hbox hb; have BK336 := zK (hbox); have GW336 := zK ((by rw [hg]; exact (below_size (zo HB)) : w.heap.size ≤ gb336)); have GE336 := zK ((by rw [hg]; exact (below_size (zo HB)) : w.heap.size ≤ gb336)); replace HB := zK (below_step (zo HB) hb); clear hb hbox hg))
  replace BK336 := zK (zD BK336.out)
  replace HB := zK (yD HB.out)
  refine start_ (n := 9) (S := fun w' => w'.cell? ⟨gb336, 0, none⟩ = some (.int .i64 a0_0) ∧ w'.cell? ⟨gb336, 1, none⟩ = some (.int .u64 a0_1) ∧ w'.cell? ⟨gb336, 2, none⟩ = some (.int .i64 a0_2) ∧ w'.cell? ⟨gb336, 3, none⟩ = some (.int .u64 a0_3)) (ds := []) #[F_,F_,F_,F_,F_,F_,F_,F_,F_] (by kernel_rfl) rfl rfl ⟨(blk_cell BK336.out 0).trans rfl, (blk_cell BK336.out 1).trans rfl, (blk_cell BK336.out 2).trans rfl, (blk_cell BK336.out 3).trans rfl⟩ (fun hHeld => ?_); refine with_tabW sequiturref27_Fits.tab1 sequiturref27_Fits.bits1 (fun HT_ HW_ => ?_)
  generalize w7.drew = w8 at BK336 HB hHeld ⊢
  refine pure_ (i := 0) (N := some 7) (v := ?_) (a' := ?_) #[T_,F_,F_,F_,F_,F_,F_,F_,F_] rfl rfl (any_of HT_.out (by kernel_rfl)) (fun _ _ _ h => h) (Or.inl ⟨by rfl, ?_⟩) ?_ ?_; rotate_left; (intro w'; go_simp; with_reducible rfl); rotate_left; (simp only [Act.put, zt, zz, zs, i64_w, i32_w]; rfl)
  refine pure_ (i := 2) (N := some 9) (v := ?_) (a' := ?_) #[T_,F_,T_,F_,F_,F_,F_,F_,F_] rfl rfl (any_of HT_.out (by kernel_rfl)) (fun _ _ _ h => h) (Or.inl ⟨by rfl, ?_⟩) ?_ ?_; rotate_left; (intro w'; go_simp; with_reducible rfl); rotate_left; (simp only [Act.put, zt, zz, zs, i64_w, i32_w]; rfl)
  refine pure_ (i := 3) (N := some 10) (v := ?_) (a' := ?_) #[T_,F_,T_,T_,F_,F_,F_,F_,F_] rfl rfl (any_of HT_.out (by kernel_rfl)) (fun _ _ _ h => h) (Or.inl ⟨by rfl, ?_⟩) ?_ ?_; rotate_left; (intro w'; go_simp; with_reducible rfl); rotate_left; (simp only [Act.put, zt, zz, zs, i64_w, i32_w]; rfl)
  refine take_ (i := 1) (N := some 8) (v := ?_) (a' := ?_) #[T_,T_,T_,T_,F_,F_,F_,F_,F_] rfl rfl (take_ofW HT_.out HW_.out (by kernel_rfl)) (fun _ _ _ h => h) (Or.inl ⟨by rfl, ?_⟩) hHeld ?_ ?_; rotate_left; (rintro w' ⟨s0, s1, s2, s3⟩; go_simp; with_reducible rfl); rotate_left; (simp only [Act.put, zt, zz, zs, i64_w, i32_w]; rfl)
  refine take_ (i := 4) (N := some 11) (v := ?_) (a' := ?_) #[T_,T_,T_,T_,T_,F_,F_,F_,F_] rfl rfl (take_ofW HT_.out HW_.out (by kernel_rfl)) (fun _ _ _ h => h) (Or.inl ⟨by rfl, ?_⟩) hHeld ?_ ?_; rotate_left; (rintro w' ⟨s0, s1, s2, s3⟩; go_simp; with_reducible rfl); rotate_left; (simp only [Act.put, zt, zz, zs, i64_w, i32_w]; rfl)
  refine join_ (σ := Nat) 1 #[T_,T_,T_,T_,T_,T_,T_,T_,F_] (fun s_ => [(12, .agg #[.int .i64 t337, .int .u64 t338]), (13, .agg #[.int .i64 t339, .int .u64 t340]), (4, .pointer (some ⟨s_, 0, none⟩))]) (fun s_ w' => (w'.cell? ⟨gb336, 0, none⟩ = some (.int .i64 a0_0) ∧ w'.cell? ⟨gb336, 1, none⟩ = some (.int .u64 a0_1) ∧ w'.cell? ⟨gb336, 2, none⟩ = some (.int .i64 a0_2) ∧ w'.cell? ⟨gb336, 3, none⟩ = some (.int .u64 a0_3)) ∧ (w'.heap[gb336]? = some (.cells #[.int .i64 a0_0, .int .u64 a0_1, .int .i64 a0_2, .int .u64 a0_3] 109 (0, 0))) ∧ (w'.heap[s_]? = some (.cells #[.int .i64 0, .int .u64 0] 107 (0, 0))) ∧ (w.heap.size ≤ s_) ∧ (w.heap.size ≤ s_) ∧ (gb336 ≠ s_) ∧ (s_ ≠ gb336) ∧ (Below w.heap.size w w')) ?_ ?_
  rotate_left
  ·intro hCont
   refine two_ (i := 5) (j := 7) (Ni := some 12) (Nj := some 4) #[T_,T_,T_,T_,T_,T_,F_,F_,F_] #[T_,T_,T_,T_,T_,F_,F_,T_,F_] rfl rfl rfl rfl (two_of HT_.out (by kernel_rfl)) (by decide) (by decide) (fun K hK => ?_) (fun K hK => ?_)
   ·skip
    refine goes_ Try.func81 (by kernel_rfl) rfl #[.int .i64 a0_2] (by rfl) rfl rfl (by (try simp only [List.map_toArray, List.map_cons, List.map_nil]); first | done | rfl | (simp only [List.length_drop, List.length_take]; rfl)) ?_
    with_reducible refine (sequiturref01_Of.calls a0_2 t337 t338 _ A2.out).mono ?_
    rintro e w9 ⟨rfl, hb⟩
    refine ⟨_, rfl, ?_⟩
    replace BK336 := zK (blk_below (g := gb336) (o := .cells #[.int .i64 a0_0, .int .u64 a0_1, .int .i64 a0_2, .int .u64 a0_3] 109 (0, 0)) (zb BK336) hb)
    replace HB := zK (below_step (zo HB) hb)
    (try clear hb); (try clear hb2); (try clear hk); (try clear hi)
    refine hK.out _ _ ⟨(blk_cell BK336.out 0).trans rfl, (blk_cell BK336.out 1).trans rfl, (blk_cell BK336.out 2).trans rfl, (blk_cell BK336.out 3).trans rfl⟩ (fun hHeld => ?_)
    clear hK K
    refine norm_ (a' := ?_) ?_ ?_; rotate_left; (show Act.put _ (some 12) _ = _; simp only [Act.put, zt, zz, zs, i64_w, i32_w]; rfl)
    refine two_ (i := 6) (j := 7) (Ni := some 13) (Nj := some 4) #[T_,T_,T_,T_,T_,T_,T_,F_,F_] #[T_,T_,T_,T_,T_,T_,F_,T_,F_] rfl rfl rfl rfl (two_of HT_.out (by kernel_rfl)) (by decide) (by decide) (fun K hK => ?_) (fun K hK => ?_)
    ·skip
     refine goes_ Try.func79 (by kernel_rfl) rfl #[.agg #[.int .i64 a0_0, .int .u64 a0_1], .agg #[.int .i64 t337, .int .u64 t338]] (by rfl) rfl rfl (by (try simp only [List.map_toArray, List.map_cons, List.map_nil]); first | done | rfl | (simp only [List.length_drop, List.length_take]; rfl)) ?_
     with_reducible refine (sequiturref01_Plus.calls a0_0 a0_1 t337 t338 t339 t340 _ A3.out).mono ?_
     rintro e w10 ⟨rfl, hb⟩
     refine ⟨_, rfl, ?_⟩
     replace BK336 := zK (blk_below (g := gb336) (o := .cells #[.int .i64 a0_0, .int .u64 a0_1, .int .i64 a0_2, .int .u64 a0_3] 109 (0, 0)) (zb BK336) hb)
     replace HB := zK (below_step (zo HB) hb)
     (try clear hb); (try clear hb2); (try clear hk); (try clear hi)
     refine hK.out _ _ ⟨(blk_cell BK336.out 0).trans rfl, (blk_cell BK336.out 1).trans rfl, (blk_cell BK336.out 2).trans rfl, (blk_cell BK336.out 3).trans rfl⟩ (fun hHeld => ?_)
     clear hK K
     refine norm_ (a' := ?_) ?_ ?_; rotate_left; (show Act.put _ (some 13) _ = _; simp only [Act.put, zt, zz, zs, i64_w, i32_w]; rfl)
     refine one_ (i := 7) (N := some 4) #[T_,T_,T_,T_,T_,T_,T_,T_,F_] rfl rfl (one_of HT_.out (by kernel_rfl)) (by decide) (fun K hK => ?_)
     refine box_step ?hg (N := 4) ?hd (cs := #[.int .i64 0, .int .u64 0]) (t := 107) ?hr ?_; (case hd => rfl); (case hg => rfl); (case hr => first | (go_simp; done) | (go_simp; rfl))
     intro gb341 hg w11 hbox hb
     have BK341 := zK (hbox)
     have GW341 := zK ((by rw [hg]; exact (below_size (zo HB)) : w.heap.size ≤ gb341))
     have GE341 := zK ((by rw [hg]; exact (below_size (zo HB)) : w.heap.size ≤ gb341))
     replace HB := zK (below_step (zo HB) hb)
     have NB336_341 := zK ((by rw [hg]; exact Nat.ne_of_lt (blk_lt (g := gb336) (o := .cells #[.int .i64 a0_0, .int .u64 a0_1, .int .i64 a0_2, .int .u64 a0_3] 109 (0, 0)) (zb BK336)) : gb336 ≠ gb341))
     have NB341_336 := zK ((by rw [hg]; exact Nat.ne_of_gt (blk_lt (g := gb336) (o := .cells #[.int .i64 a0_0, .int .u64 a0_1, .int .i64 a0_2, .int .u64 a0_3] 109 (0, 0)) (zb BK336)) : gb341 ≠ gb336))
     replace BK336 := zK (blk_below (g := gb336) (o := .cells #[.int .i64 a0_0, .int .u64 a0_1, .int .i64 a0_2, .int .u64 a0_3] 109 (0, 0)) (zb BK336) hb)
     clear hb hbox hg
     refine hK.out _ _ ⟨(blk_cell BK336.out 0).trans rfl, (blk_cell BK336.out 1).trans rfl, (blk_cell BK336.out 2).trans rfl, (blk_cell BK336.out 3).trans rfl⟩ (fun hHeld => ?_)
     clear hK K
     refine norm_ (a' := ?_) ?_ ?_; rotate_left; (show Act.put _ (some 4) _ = _; simp only [Act.put, zt, zz, zs, i64_w, i32_w]; rfl)
     exact norm_ (by simp only [putAll, Act.put, zt, zz, zs]) (hCont (gb341) _ ⟨hHeld, (zb BK336), (zb BK341), GW341.out, GE341.out, NB336_341.out, NB341_336.out, (zo HB)⟩)
    ·skip
     refine box_step ?hg (N := 4) ?hd (cs := #[.int .i64 0, .int .u64 0]) (t := 107) ?hr ?_; (case hd => rfl); (case hg => rfl); (case hr => first | (go_simp; done) | (go_simp; rfl))
     intro gb341 hg w10 hbox hb
     have BK341 := zK (hbox)
     have GW341 := zK ((by rw [hg]; exact (below_size (zo HB)) : w.heap.size ≤ gb341))
     have GE341 := zK ((by rw [hg]; exact (below_size (zo HB)) : w.heap.size ≤ gb341))
     replace HB := zK (below_step (zo HB) hb)
     have NB336_341 := zK ((by rw [hg]; exact Nat.ne_of_lt (blk_lt (g := gb336) (o := .cells #[.int .i64 a0_0, .int .u64 a0_1, .int .i64 a0_2, .int .u64 a0_3] 109 (0, 0)) (zb BK336)) : gb336 ≠ gb341))
     have NB341_336 := zK ((by rw [hg]; exact Nat.ne_of_gt (blk_lt (g := gb336) (o := .cells #[.int .i64 a0_0, .int .u64 a0_1, .int .i64 a0_2, .int .u64 a0_3] 109 (0, 0)) (zb BK336)) : gb341 ≠ gb336))
     replace BK336 := zK (blk_below (g := gb336) (o := .cells #[.int .i64 a0_0, .int .u64 a0_1, .int .i64 a0_2, .int .u64 a0_3] 109 (0, 0)) (zb BK336) hb)
     clear hb hbox hg
     refine hK.out _ _ ⟨(blk_cell BK336.out 0).trans rfl, (blk_cell BK336.out 1).trans rfl, (blk_cell BK336.out 2).trans rfl, (blk_cell BK336.out 3).trans rfl⟩ (fun hHeld => ?_)
     clear hK K
     refine norm_ (a' := ?_) ?_ ?_; rotate_left; (show Act.put _ (some 4) _ = _; simp only [Act.put, zt, zz, zs, i64_w, i32_w]; rfl)
     refine one_ (i := 6) (N := some 13) #[T_,T_,T_,T_,T_,T_,T_,T_,F_] rfl rfl (one_of HT_.out (by kernel_rfl)) (by decide) (fun K hK => ?_)
     refine goes_ Try.func79 (by kernel_rfl) rfl #[.agg #[.int .i64 a0_0, .int .u64 a0_1], .agg #[.int .i64 t337, .int .u64 t338]] (by rfl) rfl rfl (by (try simp only [List.map_toArray, List.map_cons, List.map_nil]); first | done | rfl | (simp only [List.length_drop, List.length_take]; rfl)) ?_
     with_reducible refine (sequiturref01_Plus.calls a0_0 a0_1 t337 t338 t339 t340 _ A3.out).mono ?_
     rintro e w11 ⟨rfl, hb⟩
     refine ⟨_, rfl, ?_⟩
     replace BK336 := zK (blk_below (g := gb336) (o := .cells #[.int .i64 a0_0, .int .u64 a0_1, .int .i64 a0_2, .int .u64 a0_3] 109 (0, 0)) (zb BK336) hb)
     replace BK341 := zK (blk_below (g := gb341) (o := .cells #[.int .i64 0, .int .u64 0] 107 (0, 0)) (zb BK341) hb)
     replace HB := zK (below_step (zo HB) hb)
     (try clear hb); (try clear hb2); (try clear hk); (try clear hi)
     refine hK.out _ _ ⟨(blk_cell BK336.out 0).trans rfl, (blk_cell BK336.out 1).trans rfl, (blk_cell BK336.out 2).trans rfl, (blk_cell BK336.out 3).trans rfl⟩ (fun hHeld => ?_)
     clear hK K
     refine norm_ (a' := ?_) ?_ ?_; rotate_left; (show Act.put _ (some 13) _ = _; simp only [Act.put, zt, zz, zs, i64_w, i32_w]; rfl)
     exact norm_ (by simp only [putAll, Act.put, zt, zz, zs]) (hCont (gb341) _ ⟨hHeld, (zb BK336), (zb BK341), GW341.out, GE341.out, NB336_341.out, NB341_336.out, (zo HB)⟩)
   ·skip
    refine box_step ?hg (N := 4) ?hd (cs := #[.int .i64 0, .int .u64 0]) (t := 107) ?hr ?_; (case hd => rfl); (case hg => rfl); (case hr => first | (go_simp; done) | (go_simp; rfl))
    intro gb341 hg w9 hbox hb
    have BK341 := zK (hbox)
    have GW341 := zK ((by rw [hg]; exact (below_size (zo HB)) : w.heap.size ≤ gb341))
    have GE341 := zK ((by rw [hg]; exact (below_size (zo HB)) : w.heap.size ≤ gb341))
    replace HB := zK (below_step (zo HB) hb)
    have NB336_341 := zK ((by rw [hg]; exact Nat.ne_of_lt (blk_lt (g := gb336) (o := .cells #[.int .i64 a0_0, .int .u64 a0_1, .int .i64 a0_2, .int .u64 a0_3] 109 (0, 0)) (zb BK336)) : gb336 ≠ gb341))
    have NB341_336 := zK ((by rw [hg]; exact Nat.ne_of_gt (blk_lt (g := gb336) (o := .cells #[.int .i64 a0_0, .int .u64 a0_1, .int .i64 a0_2, .int .u64 a0_3] 109 (0, 0)) (zb BK336)) : gb341 ≠ gb336))
    replace BK336 := zK (blk_below (g := gb336) (o := .cells #[.int .i64 a0_0, .int .u64 a0_1, .int .i64 a0_2, .int .u64 a0_3] 109 (0, 0)) (zb BK336) hb)
    clear hb hbox hg
    refine hK.out _ _ ⟨(blk_cell BK336.out 0).trans rfl, (blk_cell BK336.out 1).trans rfl, (blk_cell BK336.out 2).trans rfl, (blk_cell BK336.out 3).trans rfl⟩ (fun hHeld => ?_)
    clear hK K
    refine norm_ (a' := ?_) ?_ ?_; rotate_left; (show Act.put _ (some 4) _ = _; simp only [Act.put, zt, zz, zs, i64_w, i32_w]; rfl)
    refine one_ (i := 5) (N := some 12) #[T_,T_,T_,T_,T_,T_,F_,T_,F_] rfl rfl (one_of HT_.out (by kernel_rfl)) (by decide) (fun K hK => ?_)
    refine goes_ Try.func81 (by kernel_rfl) rfl #[.int .i64 a0_2] (by rfl) rfl rfl (by (try simp only [List.map_toArray, List.map_cons, List.map_nil]); first | done | rfl | (simp only [List.length_drop, List.length_take]; rfl)) ?_
    with_reducible refine (sequiturref01_Of.calls a0_2 t337 t338 _ A2.out).mono ?_
    rintro e w10 ⟨rfl, hb⟩
    refine ⟨_, rfl, ?_⟩
    replace BK336 := zK (blk_below (g := gb336) (o := .cells #[.int .i64 a0_0, .int .u64 a0_1, .int .i64 a0_2, .int .u64 a0_3] 109 (0, 0)) (zb BK336) hb)
    replace BK341 := zK (blk_below (g := gb341) (o := .cells #[.int .i64 0, .int .u64 0] 107 (0, 0)) (zb BK341) hb)
    replace HB := zK (below_step (zo HB) hb)
    (try clear hb); (try clear hb2); (try clear hk); (try clear hi)
    refine hK.out _ _ ⟨(blk_cell BK336.out 0).trans rfl, (blk_cell BK336.out 1).trans rfl, (blk_cell BK336.out 2).trans rfl, (blk_cell BK336.out 3).trans rfl⟩ (fun hHeld => ?_)
    clear hK K
    refine norm_ (a' := ?_) ?_ ?_; rotate_left; (show Act.put _ (some 12) _ = _; simp only [Act.put, zt, zz, zs, i64_w, i32_w]; rfl)
    refine one_ (i := 6) (N := some 13) #[T_,T_,T_,T_,T_,T_,T_,T_,F_] rfl rfl (one_of HT_.out (by kernel_rfl)) (by decide) (fun K hK => ?_)
    refine goes_ Try.func79 (by kernel_rfl) rfl #[.agg #[.int .i64 a0_0, .int .u64 a0_1], .agg #[.int .i64 t337, .int .u64 t338]] (by rfl) rfl rfl (by (try simp only [List.map_toArray, List.map_cons, List.map_nil]); first | done | rfl | (simp only [List.length_drop, List.length_take]; rfl)) ?_
    with_reducible refine (sequiturref01_Plus.calls a0_0 a0_1 t337 t338 t339 t340 _ A3.out).mono ?_
    rintro e w11 ⟨rfl, hb⟩
    refine ⟨_, rfl, ?_⟩
    replace BK336 := zK (blk_below (g := gb336) (o := .cells #[.int .i64 a0_0, .int .u64 a0_1, .int .i64 a0_2, .int .u64 a0_3] 109 (0, 0)) (zb BK336) hb)
    replace BK341 := zK (blk_below (g := gb341) (o := .cells #[.int .i64 0, .int .u64 0] 107 (0, 0)) (zb BK341) hb)
    replace HB := zK (below_step (zo HB) hb)
    (try clear hb); (try clear hb2); (try clear hk); (try clear hi)
    refine hK.out _ _ ⟨(blk_cell BK336.out 0).trans rfl, (blk_cell BK336.out 1).trans rfl, (blk_cell BK336.out 2).trans rfl, (blk_cell BK336.out 3).trans rfl⟩ (fun hHeld => ?_)
    clear hK K
    refine norm_ (a' := ?_) ?_ ?_; rotate_left; (show Act.put _ (some 13) _ = _; simp only [Act.put, zt, zz, zs, i64_w, i32_w]; rfl)
    exact norm_ (by simp only [putAll, Act.put, zt, zz, zs]) (hCont (gb341) _ ⟨hHeld, (zb BK336), (zb BK341), GW341.out, GE341.out, NB336_341.out, NB341_336.out, (zo HB)⟩)
  rintro gb341 w12 ⟨hS_, h0_, h1_, h2_, h3_, h4_, h5_, h6_⟩
  have n0_ : Aside0 (w12.heap[gb336]? = some (.cells #[.int .i64 a0_0, .int .u64 a0_1, .int .i64 a0_2, .int .u64 a0_3] 109 (0, 0))) := ⟨h0_⟩
  have n1_ : Aside0 (w12.heap[gb341]? = some (.cells #[.int .i64 0, .int .u64 0] 107 (0, 0))) := ⟨h1_⟩
  have n2_ : Aside0 (w.heap.size ≤ gb341) := ⟨h2_⟩
  have n3_ : Aside0 (w.heap.size ≤ gb341) := ⟨h3_⟩
  have n4_ : Aside0 (gb336 ≠ gb341) := ⟨h4_⟩
  have n5_ : Aside0 (gb341 ≠ gb336) := ⟨h5_⟩
  have n6_ : Aside0 (Below w.heap.size w w12) := ⟨h6_⟩; clear BK336 HB h0_ h1_ h2_ h3_ h4_ h5_ h6_
  have BK336 := n0_
  have BK341 := n1_
  have GW341 := n2_
  have GE341 := n3_
  have NB336_341 := n4_
  have NB341_336 := n5_
  have HB := n6_; clear n0_ n1_ n2_ n3_ n4_ n5_ n6_
  have hHeld : w12.cell? ⟨gb336, 0, none⟩ = some (.int .i64 a0_0) ∧ w12.cell? ⟨gb336, 1, none⟩ = some (.int .u64 a0_1) ∧ w12.cell? ⟨gb336, 2, none⟩ = some (.int .i64 a0_2) ∧ w12.cell? ⟨gb336, 3, none⟩ = some (.int .u64 a0_3) := hS_
  refine norm_ (a' := ?_) ?_ ?_
  rotate_left
  ·simp only [putAll, Act.put, zt, zz, zs]
   rfl
  refine one_ (i := 8) (N := none) #[T_,T_,T_,T_,T_,T_,T_,T_,T_] rfl rfl (one_of HT_.out (by kernel_rfl)) (by decide) (fun K hK => ?_)
  have hs13 : w12.cell? ⟨gb341, 0, none⟩ = some (.int .i64 0) := (blk_cell BK341.out 0).trans rfl
  have hfs13 := blk_frozen BK341.out 0
  have hns13_0 := NB336_341.out
  have hms13_0 := NB341_336.out
  have hs14 : w12.cell? ⟨gb341, 1, none⟩ = some (.int .u64 0) := (blk_cell BK341.out 1).trans rfl
  have hfs14 := blk_frozen BK341.out 1
  have hns14_0 := NB336_341.out
  have hms14_0 := NB341_336.out
  refine skip_ (w1 := ?_) (by rfl) rfl ?_ ?_
  rotate_left
  ·go_simp
   rfl
  refine hK.out _ _ ⟨((cell_far (p := ⟨gb341, _, none⟩) NB336_341.out _).trans (((cell_far (p := ⟨gb341, _, none⟩) NB336_341.out _).trans (hHeld.1)))), ((cell_far (p := ⟨gb341, _, none⟩) NB336_341.out _).trans (((cell_far (p := ⟨gb341, _, none⟩) NB336_341.out _).trans (hHeld.2.1)))), ((cell_far (p := ⟨gb341, _, none⟩) NB336_341.out _).trans (((cell_far (p := ⟨gb341, _, none⟩) NB336_341.out _).trans (hHeld.2.2.1)))), ((cell_far (p := ⟨gb341, _, none⟩) NB336_341.out _).trans (((cell_far (p := ⟨gb341, _, none⟩) NB336_341.out _).trans (hHeld.2.2.2))))⟩ (fun hHeld => ?_)
  clear hK K
  refine done_ (done_of HT_.out (by kernel_rfl)) ?_
  have hnb15 := NB341_336.out
  have hnc15 := NB336_341.out
  have hcz16_0 : w12.cell? ⟨gb341, 0, none⟩ = some (.int .i64 0) := (blk_cell BK341.out 0).trans rfl
  have hcz16_1 : w12.cell? ⟨gb341, 1, none⟩ = some (.int .u64 0) := (blk_cell BK341.out 1).trans rfl
  have hfz16_0 := blk_frozen BK341.out 0
  have hfz16_1 := blk_frozen BK341.out 1
  try go_wp2_with (first | ((with_reducible refine zC (f := 96) rfl ?_); refine goesL_ (some 16) rfl rfl Try.func96 (by kernel_rfl) rfl #[.agg #[.int .i64 t339, .int .u64 t340]] rfl (by (try simp only [List.map_toArray, List.map_cons, List.map_nil]); first | done | rfl | (simp only [List.length_drop, List.length_take]; rfl)) ?_; (with_reducible refine (sequiturref01_Fits.calls t339 t340 t342 true _ A4.out).mono ?_); rintro e w17 ⟨rfl, hb⟩; refine ⟨_, rfl, ?_⟩; replace BK336 := zK (blk_below (g := gb336) (o := .cells #[.int .i64 a0_0, .int .u64 a0_1, .int .i64 a0_2, .int .u64 a0_3] 109 (0, 0)) (zb BK336) hb); replace BK341 := zK (blk_below (g := gb341) (o := .cells #[.int .i64 t339, .int .u64 t340] 107 (0, 0)) (by refine zM ?_; refine blk_put (cs := #[.int .i64 t339, .int .u64 0]) ?_ 1 _ rfl; refine zM ?_; refine blk_put (cs := #[.int .i64 0, .int .u64 0]) ?_ 0 _ rfl; refine zM ?_; exact BK341.out) hb); replace HB := zK (below_step (zo HB) hb); (try clear hb); (try clear hb2); (try clear hk); (try clear hi); have hcz18_0 : w17.cell? ⟨gb336, 0, none⟩ = some (.int .i64 a0_0) := (blk_cell BK336.out 0).trans rfl; have hcz18_1 : w17.cell? ⟨gb336, 1, none⟩ = some (.int .u64 a0_1) := (blk_cell BK336.out 1).trans rfl; have hcz18_2 : w17.cell? ⟨gb336, 2, none⟩ = some (.int .i64 a0_2) := (blk_cell BK336.out 2).trans rfl; have hcz18_3 : w17.cell? ⟨gb336, 3, none⟩ = some (.int .u64 a0_3) := (blk_cell BK336.out 3).trans rfl; have hfz18_0 := blk_frozen BK336.out 0; have hfz18_1 := blk_frozen BK336.out 1; have hfz18_2 := blk_frozen BK336.out 2; have hfz18_3 := blk_frozen BK336.out 3) | ((with_reducible refine zC (f := 96) rfl ?_); refine goesL_ (some 26) rfl rfl Try.func96 (by kernel_rfl) rfl #[.agg #[.int .i64 t342, .int .u64 a0_3]] rfl (by (try simp only [List.map_toArray, List.map_cons, List.map_nil]); first | done | rfl | (simp only [List.length_drop, List.length_take]; rfl)) ?_; (with_reducible refine (sequiturref01_Fits.calls t342 a0_3 t344 t345 _ A6.out).mono ?_); rintro e w19 ⟨rfl, hb⟩; refine ⟨_, rfl, ?_⟩; replace BK336 := zK (blk_below (g := gb336) (o := .cells #[.int .i64 a0_0, .int .u64 a0_1, .int .i64 a0_2, .int .u64 a0_3] 109 (0, 0)) (zb BK336) hb); replace BK341 := zK (blk_below (g := gb341) (o := .cells #[.int .i64 t339, .int .u64 t340] 107 (0, 0)) (zb BK341) hb); replace HB := zK (below_step (zo HB) hb); (try clear hb); (try clear hb2); (try clear hk); (try clear hi)))
  go_ret2
  exact ⟨by first | rfl | (simp [errW_none, errW_some] <;> rfl) | (simp [*, errW_none, errW_some] <;> rfl), zo HB⟩
 ·replace c5 := Bool.eq_false_iff.mpr c5
  subst c5
  have H1 : (some (0, false)) = some (r1, r2) := by rw [if_neg (show ¬ (false = true) by decide)] at H; exact H
  clear H; have H := H1; clear H1
  simp only [Option.some.injEq, Prod.mk.injEq] at H
  obtain ⟨rfl, rfl⟩ := H
  go_enter Try.func72, Try.ntmps72
  try go_wp2_with (first | ((with_reducible refine gate_dst (N := 1) rfl ?_); refine box_event ?hg (N := 1) ?hd (cs := #[.int .i64 a0_0, .int .u64 a0_1, .int .i64 a0_2, .int .u64 a0_3]) (t := 109) ?hr ?_; (case hd => rfl); (case hg => rfl); (case hr => first | (go_simp; done) | (go_simp; rfl)); intro gb336 hg w20 hbox hb; have BK336 := zK (hbox); have GW336 := zK ((by rw [hg]; exact (below_size (zo HB)) : w.heap.size ≤ gb336)); have GE336 := zK ((by rw [hg]; exact (below_size (zo HB)) : w.heap.size ≤ gb336)); replace HB := zK (below_step (zo HB) hb); clear hb hbox hg))
  replace BK336 := zK (zD BK336.out)
  replace HB := zK (yD HB.out)
  refine start_ (n := 9) (S := fun w' => w'.cell? ⟨gb336, 0, none⟩ = some (.int .i64 a0_0) ∧ w'.cell? ⟨gb336, 1, none⟩ = some (.int .u64 a0_1) ∧ w'.cell? ⟨gb336, 2, none⟩ = some (.int .i64 a0_2) ∧ w'.cell? ⟨gb336, 3, none⟩ = some (.int .u64 a0_3)) (ds := []) #[F_,F_,F_,F_,F_,F_,F_,F_,F_] (by kernel_rfl) rfl rfl ⟨(blk_cell BK336.out 0).trans rfl, (blk_cell BK336.out 1).trans rfl, (blk_cell BK336.out 2).trans rfl, (blk_cell BK336.out 3).trans rfl⟩ (fun hHeld => ?_); refine with_tabW sequiturref27_Fits.tab1 sequiturref27_Fits.bits1 (fun HT_ HW_ => ?_)
  generalize w20.drew = w21 at BK336 HB hHeld ⊢
  refine pure_ (i := 0) (N := some 7) (v := ?_) (a' := ?_) #[T_,F_,F_,F_,F_,F_,F_,F_,F_] rfl rfl (any_of HT_.out (by kernel_rfl)) (fun _ _ _ h => h) (Or.inl ⟨by rfl, ?_⟩) ?_ ?_; rotate_left; (intro w'; go_simp; with_reducible rfl); rotate_left; (simp only [Act.put, zt, zz, zs, i64_w, i32_w]; rfl)
  refine pure_ (i := 2) (N := some 9) (v := ?_) (a' := ?_) #[T_,F_,T_,F_,F_,F_,F_,F_,F_] rfl rfl (any_of HT_.out (by kernel_rfl)) (fun _ _ _ h => h) (Or.inl ⟨by rfl, ?_⟩) ?_ ?_; rotate_left; (intro w'; go_simp; with_reducible rfl); rotate_left; (simp only [Act.put, zt, zz, zs, i64_w, i32_w]; rfl)
  refine pure_ (i := 3) (N := some 10) (v := ?_) (a' := ?_) #[T_,F_,T_,T_,F_,F_,F_,F_,F_] rfl rfl (any_of HT_.out (by kernel_rfl)) (fun _ _ _ h => h) (Or.inl ⟨by rfl, ?_⟩) ?_ ?_; rotate_left; (intro w'; go_simp; with_reducible rfl); rotate_left; (simp only [Act.put, zt, zz, zs, i64_w, i32_w]; rfl)
  refine take_ (i := 1) (N := some 8) (v := ?_) (a' := ?_) #[T_,T_,T_,T_,F_,F_,F_,F_,F_] rfl rfl (take_ofW HT_.out HW_.out (by kernel_rfl)) (fun _ _ _ h => h) (Or.inl ⟨by rfl, ?_⟩) hHeld ?_ ?_; rotate_left; (rintro w' ⟨s0, s1, s2, s3⟩; go_simp; with_reducible rfl); rotate_left; (simp only [Act.put, zt, zz, zs, i64_w, i32_w]; rfl)
  refine take_ (i := 4) (N := some 11) (v := ?_) (a' := ?_) #[T_,T_,T_,T_,T_,F_,F_,F_,F_] rfl rfl (take_ofW HT_.out HW_.out (by kernel_rfl)) (fun _ _ _ h => h) (Or.inl ⟨by rfl, ?_⟩) hHeld ?_ ?_; rotate_left; (rintro w' ⟨s0, s1, s2, s3⟩; go_simp; with_reducible rfl); rotate_left; (simp only [Act.put, zt, zz, zs, i64_w, i32_w]; rfl)
  refine join_ (σ := Nat) 1 #[T_,T_,T_,T_,T_,T_,T_,T_,F_] (fun s_ => [(12, .agg #[.int .i64 t337, .int .u64 t338]), (13, .agg #[.int .i64 t339, .int .u64 t340]), (4, .pointer (some ⟨s_, 0, none⟩))]) (fun s_ w' => (w'.cell? ⟨gb336, 0, none⟩ = some (.int .i64 a0_0) ∧ w'.cell? ⟨gb336, 1, none⟩ = some (.int .u64 a0_1) ∧ w'.cell? ⟨gb336, 2, none⟩ = some (.int .i64 a0_2) ∧ w'.cell? ⟨gb336, 3, none⟩ = some (.int .u64 a0_3)) ∧ (w'.heap[gb336]? = some (.cells #[.int .i64 a0_0, .int .u64 a0_1, .int .i64 a0_2, .int .u64 a0_3] 109 (0, 0))) ∧ (w'.heap[s_]? = some (.cells #[.int .i64 0, .int .u64 0] 107 (0, 0))) ∧ (w.heap.size ≤ s_) ∧ (w.heap.size ≤ s_) ∧ (gb336 ≠ s_) ∧ (s_ ≠ gb336) ∧ (Below w.heap.size w w')) ?_ ?_
  rotate_left
  ·intro hCont
   refine two_ (i := 5) (j := 7) (Ni := some 12) (Nj := some 4) #[T_,T_,T_,T_,T_,T_,F_,F_,F_] #[T_,T_,T_,T_,T_,F_,F_,T_,F_] rfl rfl rfl rfl (two_of HT_.out (by kernel_rfl)) (by decide) (by decide) (fun K hK => ?_) (fun K hK => ?_)
   ·skip
    refine goes_ Try.func81 (by kernel_rfl) rfl #[.int .i64 a0_2] (by rfl) rfl rfl (by (try simp only [List.map_toArray, List.map_cons, List.map_nil]); first | done | rfl | (simp only [List.length_drop, List.length_take]; rfl)) ?_
    with_reducible refine (sequiturref01_Of.calls a0_2 t337 t338 _ A2.out).mono ?_
    rintro e w22 ⟨rfl, hb⟩
    refine ⟨_, rfl, ?_⟩
    replace BK336 := zK (blk_below (g := gb336) (o := .cells #[.int .i64 a0_0, .int .u64 a0_1, .int .i64 a0_2, .int .u64 a0_3] 109 (0, 0)) (zb BK336) hb)
    replace HB := zK (below_step (zo HB) hb)
    (try clear hb); (try clear hb2); (try clear hk); (try clear hi)
    refine hK.out _ _ ⟨(blk_cell BK336.out 0).trans rfl, (blk_cell BK336.out 1).trans rfl, (blk_cell BK336.out 2).trans rfl, (blk_cell BK336.out 3).trans rfl⟩ (fun hHeld => ?_)
    clear hK K
    refine norm_ (a' := ?_) ?_ ?_; rotate_left; (show Act.put _ (some 12) _ = _; simp only [Act.put, zt, zz, zs, i64_w, i32_w]; rfl)
    refine two_ (i := 6) (j := 7) (Ni := some 13) (Nj := some 4) #[T_,T_,T_,T_,T_,T_,T_,F_,F_] #[T_,T_,T_,T_,T_,T_,F_,T_,F_] rfl rfl rfl rfl (two_of HT_.out (by kernel_rfl)) (by decide) (by decide) (fun K hK => ?_) (fun K hK => ?_)
    ·skip
     refine goes_ Try.func79 (by kernel_rfl) rfl #[.agg #[.int .i64 a0_0, .int .u64 a0_1], .agg #[.int .i64 t337, .int .u64 t338]] (by rfl) rfl rfl (by (try simp only [List.map_toArray, List.map_cons, List.map_nil]); first | done | rfl | (simp only [List.length_drop, List.length_take]; rfl)) ?_
     with_reducible refine (sequiturref01_Plus.calls a0_0 a0_1 t337 t338 t339 t340 _ A3.out).mono ?_
     rintro e w23 ⟨rfl, hb⟩
     refine ⟨_, rfl, ?_⟩
     replace BK336 := zK (blk_below (g := gb336) (o := .cells #[.int .i64 a0_0, .int .u64 a0_1, .int .i64 a0_2, .int .u64 a0_3] 109 (0, 0)) (zb BK336) hb)
     replace HB := zK (below_step (zo HB) hb)
     (try clear hb); (try clear hb2); (try clear hk); (try clear hi)
     refine hK.out _ _ ⟨(blk_cell BK336.out 0).trans rfl, (blk_cell BK336.out 1).trans rfl, (blk_cell BK336.out 2).trans rfl, (blk_cell BK336.out 3).trans rfl⟩ (fun hHeld => ?_)
     clear hK K
     refine norm_ (a' := ?_) ?_ ?_; rotate_left; (show Act.put _ (some 13) _ = _; simp only [Act.put, zt, zz, zs, i64_w, i32_w]; rfl)
     refine one_ (i := 7) (N := some 4) #[T_,T_,T_,T_,T_,T_,T_,T_,F_] rfl rfl (one_of HT_.out (by kernel_rfl)) (by decide) (fun K hK => ?_)
     refine box_step ?hg (N := 4) ?hd (cs := #[.int .i64 0, .int .u64 0]) (t := 107) ?hr ?_; (case hd => rfl); (case hg => rfl); (case hr => first | (go_simp; done) | (go_simp; rfl))
     intro gb341 hg w24 hbox hb
     have BK341 := zK (hbox)
     have GW341 := zK ((by rw [hg]; exact (below_size (zo HB)) : w.heap.size ≤ gb341))
     have GE341 := zK ((by rw [hg]; exact (below_size (zo HB)) : w.heap.size ≤ gb341))
     replace HB := zK (below_step (zo HB) hb)
     have NB336_341 := zK ((by rw [hg]; exact Nat.ne_of_lt (blk_lt (g := gb336) (o := .cells #[.int .i64 a0_0, .int .u64 a0_1, .int .i64 a0_2, .int .u64 a0_3] 109 (0, 0)) (zb BK336)) : gb336 ≠ gb341))
     have NB341_336 := zK ((by rw [hg]; exact Nat.ne_of_gt (blk_lt (g := gb336) (o := .cells #[.int .i64 a0_0, .int .u64 a0_1, .int .i64 a0_2, .int .u64 a0_3] 109 (0, 0)) (zb BK336)) : gb341 ≠ gb336))
     replace BK336 := zK (blk_below (g := gb336) (o := .cells #[.int .i64 a0_0, .int .u64 a0_1, .int .i64 a0_2, .int .u64 a0_3] 109 (0, 0)) (zb BK336) hb)
     clear hb hbox hg
     refine hK.out _ _ ⟨(blk_cell BK336.out 0).trans rfl, (blk_cell BK336.out 1).trans rfl, (blk_cell BK336.out 2).trans rfl, (blk_cell BK336.out 3).trans rfl⟩ (fun hHeld => ?_)
     clear hK K
     refine norm_ (a' := ?_) ?_ ?_; rotate_left; (show Act.put _ (some 4) _ = _; simp only [Act.put, zt, zz, zs, i64_w, i32_w]; rfl)
     exact norm_ (by simp only [putAll, Act.put, zt, zz, zs]) (hCont (gb341) _ ⟨hHeld, (zb BK336), (zb BK341), GW341.out, GE341.out, NB336_341.out, NB341_336.out, (zo HB)⟩)
    ·skip
     refine box_step ?hg (N := 4) ?hd (cs := #[.int .i64 0, .int .u64 0]) (t := 107) ?hr ?_; (case hd => rfl); (case hg => rfl); (case hr => first | (go_simp; done) | (go_simp; rfl))
     intro gb341 hg w23 hbox hb
     have BK341 := zK (hbox)
     have GW341 := zK ((by rw [hg]; exact (below_size (zo HB)) : w.heap.size ≤ gb341))
     have GE341 := zK ((by rw [hg]; exact (below_size (zo HB)) : w.heap.size ≤ gb341))
     replace HB := zK (below_step (zo HB) hb)
     have NB336_341 := zK ((by rw [hg]; exact Nat.ne_of_lt (blk_lt (g := gb336) (o := .cells #[.int .i64 a0_0, .int .u64 a0_1, .int .i64 a0_2, .int .u64 a0_3] 109 (0, 0)) (zb BK336)) : gb336 ≠ gb341))
     have NB341_336 := zK ((by rw [hg]; exact Nat.ne_of_gt (blk_lt (g := gb336) (o := .cells #[.int .i64 a0_0, .int .u64 a0_1, .int .i64 a0_2, .int .u64 a0_3] 109 (0, 0)) (zb BK336)) : gb341 ≠ gb336))
     replace BK336 := zK (blk_below (g := gb336) (o := .cells #[.int .i64 a0_0, .int .u64 a0_1, .int .i64 a0_2, .int .u64 a0_3] 109 (0, 0)) (zb BK336) hb)
     clear hb hbox hg
     refine hK.out _ _ ⟨(blk_cell BK336.out 0).trans rfl, (blk_cell BK336.out 1).trans rfl, (blk_cell BK336.out 2).trans rfl, (blk_cell BK336.out 3).trans rfl⟩ (fun hHeld => ?_)
     clear hK K
     refine norm_ (a' := ?_) ?_ ?_; rotate_left; (show Act.put _ (some 4) _ = _; simp only [Act.put, zt, zz, zs, i64_w, i32_w]; rfl)
     refine one_ (i := 6) (N := some 13) #[T_,T_,T_,T_,T_,T_,T_,T_,F_] rfl rfl (one_of HT_.out (by kernel_rfl)) (by decide) (fun K hK => ?_)
     refine goes_ Try.func79 (by kernel_rfl) rfl #[.agg #[.int .i64 a0_0, .int .u64 a0_1], .agg #[.int .i64 t337, .int .u64 t338]] (by rfl) rfl rfl (by (try simp only [List.map_toArray, List.map_cons, List.map_nil]); first | done | rfl | (simp only [List.length_drop, List.length_take]; rfl)) ?_
     with_reducible refine (sequiturref01_Plus.calls a0_0 a0_1 t337 t338 t339 t340 _ A3.out).mono ?_
     rintro e w24 ⟨rfl, hb⟩
     refine ⟨_, rfl, ?_⟩
     replace BK336 := zK (blk_below (g := gb336) (o := .cells #[.int .i64 a0_0, .int .u64 a0_1, .int .i64 a0_2, .int .u64 a0_3] 109 (0, 0)) (zb BK336) hb)
     replace BK341 := zK (blk_below (g := gb341) (o := .cells #[.int .i64 0, .int .u64 0] 107 (0, 0)) (zb BK341) hb)
     replace HB := zK (below_step (zo HB) hb)
     (try clear hb); (try clear hb2); (try clear hk); (try clear hi)
     refine hK.out _ _ ⟨(blk_cell BK336.out 0).trans rfl, (blk_cell BK336.out 1).trans rfl, (blk_cell BK336.out 2).trans rfl, (blk_cell BK336.out 3).trans rfl⟩ (fun hHeld => ?_)
     clear hK K
     refine norm_ (a' := ?_) ?_ ?_; rotate_left; (show Act.put _ (some 13) _ = _; simp only [Act.put, zt, zz, zs, i64_w, i32_w]; rfl)
     exact norm_ (by simp only [putAll, Act.put, zt, zz, zs]) (hCont (gb341) _ ⟨hHeld, (zb BK336), (zb BK341), GW341.out, GE341.out, NB336_341.out, NB341_336.out, (zo HB)⟩)
   ·skip
    refine box_step ?hg (N := 4) ?hd (cs := #[.int .i64 0, .int .u64 0]) (t := 107) ?hr ?_; (case hd => rfl); (case hg => rfl); (case hr => first | (go_simp; done) | (go_simp; rfl))
    intro gb341 hg w22 hbox hb
    have BK341 := zK (hbox)
    have GW341 := zK ((by rw [hg]; exact (below_size (zo HB)) : w.heap.size ≤ gb341))
    have GE341 := zK ((by rw [hg]; exact (below_size (zo HB)) : w.heap.size ≤ gb341))
    replace HB := zK (below_step (zo HB) hb)
    have NB336_341 := zK ((by rw [hg]; exact Nat.ne_of_lt (blk_lt (g := gb336) (o := .cells #[.int .i64 a0_0, .int .u64 a0_1, .int .i64 a0_2, .int .u64 a0_3] 109 (0, 0)) (zb BK336)) : gb336 ≠ gb341))
    have NB341_336 := zK ((by rw [hg]; exact Nat.ne_of_gt (blk_lt (g := gb336) (o := .cells #[.int .i64 a0_0, .int .u64 a0_1, .int .i64 a0_2, .int .u64 a0_3] 109 (0, 0)) (zb BK336)) : gb341 ≠ gb336))
    replace BK336 := zK (blk_below (g := gb336) (o := .cells #[.int .i64 a0_0, .int .u64 a0_1, .int .i64 a0_2, .int .u64 a0_3] 109 (0, 0)) (zb BK336) hb)
    clear hb hbox hg
    refine hK.out _ _ ⟨(blk_cell BK336.out 0).trans rfl, (blk_cell BK336.out 1).trans rfl, (blk_cell BK336.out 2).trans rfl, (blk_cell BK336.out 3).trans rfl⟩ (fun hHeld => ?_)
    clear hK K
    refine norm_ (a' := ?_) ?_ ?_; rotate_left; (show Act.put _ (some 4) _ = _; simp only [Act.put, zt, zz, zs, i64_w, i32_w]; rfl)
    refine one_ (i := 5) (N := some 12) #[T_,T_,T_,T_,T_,T_,F_,T_,F_] rfl rfl (one_of HT_.out (by kernel_rfl)) (by decide) (fun K hK => ?_)
    refine goes_ Try.func81 (by kernel_rfl) rfl #[.int .i64 a0_2] (by rfl) rfl rfl (by (try simp only [List.map_toArray, List.map_cons, List.map_nil]); first | done | rfl | (simp only [List.length_drop, List.length_take]; rfl)) ?_
    with_reducible refine (sequiturref01_Of.calls a0_2 t337 t338 _ A2.out).mono ?_
    rintro e w23 ⟨rfl, hb⟩
    refine ⟨_, rfl, ?_⟩
    replace BK336 := zK (blk_below (g := gb336) (o := .cells #[.int .i64 a0_0, .int .u64 a0_1, .int .i64 a0_2, .int .u64 a0_3] 109 (0, 0)) (zb BK336) hb)
    replace BK341 := zK (blk_below (g := gb341) (o := .cells #[.int .i64 0, .int .u64 0] 107 (0, 0)) (zb BK341) hb)
    replace HB := zK (below_step (zo HB) hb)
    (try clear hb); (try clear hb2); (try clear hk); (try clear hi)
    refine hK.out _ _ ⟨(blk_cell BK336.out 0).trans rfl, (blk_cell BK336.out 1).trans rfl, (blk_cell BK336.out 2).trans rfl, (blk_cell BK336.out 3).trans rfl⟩ (fun hHeld => ?_)
    clear hK K
    refine norm_ (a' := ?_) ?_ ?_; rotate_left; (show Act.put _ (some 12) _ = _; simp only [Act.put, zt, zz, zs, i64_w, i32_w]; rfl)
    refine one_ (i := 6) (N := some 13) #[T_,T_,T_,T_,T_,T_,T_,T_,F_] rfl rfl (one_of HT_.out (by kernel_rfl)) (by decide) (fun K hK => ?_)
    refine goes_ Try.func79 (by kernel_rfl) rfl #[.agg #[.int .i64 a0_0, .int .u64 a0_1], .agg #[.int .i64 t337, .int .u64 t338]] (by rfl) rfl rfl (by (try simp only [List.map_toArray, List.map_cons, List.map_nil]); first | done | rfl | (simp only [List.length_drop, List.length_take]; rfl)) ?_
    with_reducible refine (sequiturref01_Plus.calls a0_0 a0_1 t337 t338 t339 t340 _ A3.out).mono ?_
    rintro e w24 ⟨rfl, hb⟩
    refine ⟨_, rfl, ?_⟩
    replace BK336 := zK (blk_below (g := gb336) (o := .cells #[.int .i64 a0_0, .int .u64 a0_1, .int .i64 a0_2, .int .u64 a0_3] 109 (0, 0)) (zb BK336) hb)
    replace BK341 := zK (blk_below (g := gb341) (o := .cells #[.int .i64 0, .int .u64 0] 107 (0, 0)) (zb BK341) hb)
    replace HB := zK (below_step (zo HB) hb)
    (try clear hb); (try clear hb2); (try clear hk); (try clear hi)
    refine hK.out _ _ ⟨(blk_cell BK336.out 0).trans rfl, (blk_cell BK336.out 1).trans rfl, (blk_cell BK336.out 2).trans rfl, (blk_cell BK336.out 3).trans rfl⟩ (fun hHeld => ?_)
    clear hK K
    refine norm_ (a' := ?_) ?_ ?_; rotate_left; (show Act.put _ (some 13) _ = _; simp only [Act.put, zt, zz, zs, i64_w, i32_w]; rfl)
    exact norm_ (by simp only [putAll, Act.put, zt, zz, zs]) (hCont (gb341) _ ⟨hHeld, (zb BK336), (zb BK341), GW341.out, GE341.out, NB336_341.out, NB341_336.out, (zo HB)⟩)
  rintro gb341 w25 ⟨hS_, h0_, h1_, h2_, h3_, h4_, h5_, h6_⟩
  have n0_ : Aside0 (w25.heap[gb336]? = some (.cells #[.int .i64 a0_0, .int .u64 a0_1, .int .i64 a0_2, .int .u64 a0_3] 109 (0, 0))) := ⟨h0_⟩
  have n1_ : Aside0 (w25.heap[gb341]? = some (.cells #[.int .i64 0, .int .u64 0] 107 (0, 0))) := ⟨h1_⟩
  have n2_ : Aside0 (w.heap.size ≤ gb341) := ⟨h2_⟩
  have n3_ : Aside0 (w.heap.size ≤ gb341) := ⟨h3_⟩
  have n4_ : Aside0 (gb336 ≠ gb341) := ⟨h4_⟩
  have n5_ : Aside0 (gb341 ≠ gb336) := ⟨h5_⟩
  have n6_ : Aside0 (Below w.heap.size w w25) := ⟨h6_⟩; clear BK336 HB h0_ h1_ h2_ h3_ h4_ h5_ h6_
  have BK336 := n0_
  have BK341 := n1_
  have GW341 := n2_
  have GE341 := n3_
  have NB336_341 := n4_
  have NB341_336 := n5_
  have HB := n6_; clear n0_ n1_ n2_ n3_ n4_ n5_ n6_
  have hHeld : w25.cell? ⟨gb336, 0, none⟩ = some (.int .i64 a0_0) ∧ w25.cell? ⟨gb336, 1, none⟩ = some (.int .u64 a0_1) ∧ w25.cell? ⟨gb336, 2, none⟩ = some (.int .i64 a0_2) ∧ w25.cell? ⟨gb336, 3, none⟩ = some (.int .u64 a0_3) := hS_
  refine norm_ (a' := ?_) ?_ ?_
  rotate_left
  ·simp only [putAll, Act.put, zt, zz, zs]
   rfl
  refine one_ (i := 8) (N := none) #[T_,T_,T_,T_,T_,T_,T_,T_,T_] rfl rfl (one_of HT_.out (by kernel_rfl)) (by decide) (fun K hK => ?_)
  have hs26 : w25.cell? ⟨gb341, 0, none⟩ = some (.int .i64 0) := (blk_cell BK341.out 0).trans rfl
  have hfs26 := blk_frozen BK341.out 0
  have hns26_0 := NB336_341.out
  have hms26_0 := NB341_336.out
  have hs27 : w25.cell? ⟨gb341, 1, none⟩ = some (.int .u64 0) := (blk_cell BK341.out 1).trans rfl
  have hfs27 := blk_frozen BK341.out 1
  have hns27_0 := NB336_341.out
  have hms27_0 := NB341_336.out
  refine skip_ (w1 := ?_) (by rfl) rfl ?_ ?_
  rotate_left
  ·go_simp
   rfl
  refine hK.out _ _ ⟨((cell_far (p := ⟨gb341, _, none⟩) NB336_341.out _).trans (((cell_far (p := ⟨gb341, _, none⟩) NB336_341.out _).trans (hHeld.1)))), ((cell_far (p := ⟨gb341, _, none⟩) NB336_341.out _).trans (((cell_far (p := ⟨gb341, _, none⟩) NB336_341.out _).trans (hHeld.2.1)))), ((cell_far (p := ⟨gb341, _, none⟩) NB336_341.out _).trans (((cell_far (p := ⟨gb341, _, none⟩) NB336_341.out _).trans (hHeld.2.2.1)))), ((cell_far (p := ⟨gb341, _, none⟩) NB336_341.out _).trans (((cell_far (p := ⟨gb341, _, none⟩) NB336_341.out _).trans (hHeld.2.2.2))))⟩ (fun hHeld => ?_)
  clear hK K
  refine done_ (done_of HT_.out (by kernel_rfl)) ?_
  have hnb28 := NB341_336.out
  have hnc28 := NB336_341.out
  have hcz29_0 : w25.cell? ⟨gb341, 0, none⟩ = some (.int .i64 0) := (blk_cell BK341.out 0).trans rfl
  have hcz29_1 : w25.cell? ⟨gb341, 1, none⟩ = some (.int .u64 0) := (blk_cell BK341.out 1).trans rfl
  have hfz29_0 := blk_frozen BK341.out 0
  have hfz29_1 := blk_frozen BK341.out 1
  try go_wp2_with (first | ((with_reducible refine zC (f := 96) rfl ?_); refine goesL_ (some 16) rfl rfl Try.func96 (by kernel_rfl) rfl #[.agg #[.int .i64 t339, .int .u64 t340]] rfl (by (try simp only [List.map_toArray, List.map_cons, List.map_nil]); first | done | rfl | (simp only [List.length_drop, List.length_take]; rfl)) ?_; (with_reducible refine (sequiturref01_Fits.calls t339 t340 t342 false _ A4.out).mono ?_); rintro e w30 ⟨rfl, hb⟩; refine ⟨_, rfl, ?_⟩; replace BK336 := zK (blk_below (g := gb336) (o := .cells #[.int .i64 a0_0, .int .u64 a0_1, .int .i64 a0_2, .int .u64 a0_3] 109 (0, 0)) (zb BK336) hb); replace BK341 := zK (blk_below (g := gb341) (o := .cells #[.int .i64 t339, .int .u64 t340] 107 (0, 0)) (by refine zM ?_; refine blk_put (cs := #[.int .i64 t339, .int .u64 0]) ?_ 1 _ rfl; refine zM ?_; refine blk_put (cs := #[.int .i64 0, .int .u64 0]) ?_ 0 _ rfl; refine zM ?_; exact BK341.out) hb); replace HB := zK (below_step (zo HB) hb); (try clear hb); (try clear hb2); (try clear hk); (try clear hi)))
  go_ret2
  exact ⟨by first | rfl | (simp [errW_none, errW_some] <;> rfl) | (simp [*, errW_none, errW_some] <;> rfl), zo HB⟩

end Go.Proofs.Ytkfbfgkdabljiaa.PShadowSplits
