/- What the call of each function that the law reaches comes to: it answers as the plain function of the same name does, wherever that one answers; and the law itself out of its plain form. Written by a program of this session (an extended copy of the printer); no condition but what stands in each theorem. -/
import Derived.Test.YtkfbfgkdabljiaaPBoxFindsx0
import Derived.Test.YtkfbfgkdabljiaaPBoxFindsx7
namespace Go.Proofs.Ytkfbfgkdabljiaa.PBoxFinds
open Go.RowKit Go.Proofs.YtkfbfgkdabljiaaW.PrintWords Go.Proofs.YtkfbfgkdabljiaaW.PrintLast Go.Proofs.YtkfbfgkdabljiaaW.PrintMore
open Go.Proofs.YtkfbfgkdabljiaaW.PrintWords renaming blk_drewN → zN, blk_drew → zD, blk_alloc → zA, below_alloc → yA, pw_below_drewN → yN, below_drew1 → yD, below_set → yS, gate_callee → zC
open Go.Proofs.YtkfbfgkdabljiaaW.PrintWords.Aside0 renaming mk → zK
open Bool renaming true → T_, false → F_
open List renaming setIfInBounds_toArray → zt, set_cons_zero → zz, set_cons_succ → zs
attribute [local go_sem] max2_int min2_int max_two min_two max_three min_three max_four min_four   -- for this text's walks alone
set_option linter.unusedVariables false
set_option linter.unusedSimpArgs false

/-! ### sequiturref28_More: function 115 -/
def sequiturref28_More.f (k : Nat) (a0_0 : Int) (a0_1 : Int) (a0_2 : Int) (a1 : Int) (a2 : Int) : Option (Int × Int × Int) := (sequiturref01_Times.f k a1 a2).bind fun bt223 => ((sequiturref01_Of.f bt223.1).bind fun bt226 => ((sequiturref01_Plus.f a0_0 a0_1 bt226.1 bt226.2).bind fun bt228 => (if (IntKind.u64.wrap (a0_2 + bt223.2)) < a0_2 then ((sequiturref01_Of.f 1).bind fun bt231 => ((sequiturref01_Plus.f bt228.1 bt228.2 bt231.1 bt231.2).bind fun bt233 => (some (bt233.1, bt233.2, IntKind.u64.wrap (a0_2 + bt223.2))))) else (some (bt228.1, bt228.2, IntKind.u64.wrap (a0_2 + bt223.2))))))
theorem sequiturref28_More.mono : ∀ a0 a1 a2 a3 a4 k, LeO (sequiturref28_More.f k a0 a1 a2 a3 a4) (sequiturref28_More.f (k + 1) a0 a1 a2 a3 a4) := by
 intro a0 a1 a2 a3 a4 k
 unfold sequiturref28_More.f
 repeat' first
   | (with_reducible exact sequiturref01_Times.mono _ _ _)
   | (with_reducible exact LeO.refl _)
   | (with_reducible exact LeO.none _)
   | (with_reducible refine LeO.ite ?_ ?_)
   | (with_reducible refine LeO.bind ?_ (fun _ => ?_))
   | exact sequiturref01_Times.mono _ _ _
   | exact LeO.none _
   | refine LeO.ite ?_ ?_
   | refine LeO.bind ?_ (fun _ => ?_)
def sequiturref28_More.T3 : Bool × List (List Nat × List Nat) := (true, [([], []), ([0], [0]), ([], []), ([2], [2]), ([3], [3]), ([1, 4, 4], [1, 4]), ([], []), ([6, 5, 5, 0, 1, 2, 3, 4, 5, 6], [5, 6])])
def sequiturref28_More.B3 : List Nat := [0, 1, 0, 4, 12, 31, 0, 127]
theorem sequiturref28_More.tab3 : rtab .any (opsOf Try.f115 3) = sequiturref28_More.T3 := by kernel_rfl
theorem sequiturref28_More.bits3 : waitsOk sequiturref28_More.T3.2 sequiturref28_More.B3 = true := by kernel_rfl
set_option maxHeartbeats 8000000 in
set_option maxRecDepth 100000 in
theorem sequiturref28_More.calls (k : Nat) (a0_0 : Int) (a0_1 : Int) (a0_2 : Int) (a1 : Int) (a2 : Int) (r1 : Int) (r2 : Int) (r3 : Int) (w : World) (h : sequiturref28_More.f k a0_0 a0_1 a0_2 a1 a2 = some (r1, r2, r3)) :
  Calls Try.prog 115 #[.agg #[.int .i64 a0_0, .int .u64 a0_1, .int .u64 a0_2], .int .i64 a1, .int .i64 a2] w fun e w' => e = .returned (.agg #[.int .i64 r1, .int .u64 r2, .int .u64 r3]) ∧ Below w.heap.size w w' := by
 have hu151 := Try.underlying151
 have hu107 := Try.underlying107
 have HB := zK (Below.refl w.heap.size w)
 have H : ((sequiturref01_Times.f k a1 a2).bind fun bt223 => ((sequiturref01_Of.f bt223.1).bind fun bt226 => ((sequiturref01_Plus.f a0_0 a0_1 bt226.1 bt226.2).bind fun bt228 => (if (IntKind.u64.wrap (a0_2 + bt223.2)) < a0_2 then ((sequiturref01_Of.f 1).bind fun bt231 => ((sequiturref01_Plus.f bt228.1 bt228.2 bt231.1 bt231.2).bind fun bt233 => (some (bt233.1, bt233.2, IntKind.u64.wrap (a0_2 + bt223.2))))) else (some (bt228.1, bt228.2, IntKind.u64.wrap (a0_2 + bt223.2))))))) = some (r1, r2, r3) := h
 clear h; replace H := Option.bind_eq_some_iff.mp H
 obtain ⟨⟨t223, t224⟩, A40, H⟩ := H
 replace H : ((sequiturref01_Of.f t223).bind fun bt226 => ((sequiturref01_Plus.f a0_0 a0_1 bt226.1 bt226.2).bind fun bt228 => (if (IntKind.u64.wrap (a0_2 + t224)) < a0_2 then ((sequiturref01_Of.f 1).bind fun bt231 => ((sequiturref01_Plus.f bt228.1 bt228.2 bt231.1 bt231.2).bind fun bt233 => (some (bt233.1, bt233.2, IntKind.u64.wrap (a0_2 + t224))))) else (some (bt228.1, bt228.2, IntKind.u64.wrap (a0_2 + t224)))))) = some (r1, r2, r3) := H
 have A4 := zK A40; clear A40; replace H := Option.bind_eq_some_iff.mp H
 obtain ⟨⟨t226, t227⟩, A50, H⟩ := H
 replace H : ((sequiturref01_Plus.f a0_0 a0_1 t226 t227).bind fun bt228 => (if (IntKind.u64.wrap (a0_2 + t224)) < a0_2 then ((sequiturref01_Of.f 1).bind fun bt231 => ((sequiturref01_Plus.f bt228.1 bt228.2 bt231.1 bt231.2).bind fun bt233 => (some (bt233.1, bt233.2, IntKind.u64.wrap (a0_2 + t224))))) else (some (bt228.1, bt228.2, IntKind.u64.wrap (a0_2 + t224))))) = some (r1, r2, r3) := H
 have A5 := zK A50; clear A50; replace H := Option.bind_eq_some_iff.mp H
 obtain ⟨⟨t228, t229⟩, A60, H⟩ := H
 replace H : (if (IntKind.u64.wrap (a0_2 + t224)) < a0_2 then ((sequiturref01_Of.f 1).bind fun bt231 => ((sequiturref01_Plus.f t228 t229 bt231.1 bt231.2).bind fun bt233 => (some (bt233.1, bt233.2, IntKind.u64.wrap (a0_2 + t224))))) else (some (t228, t229, IntKind.u64.wrap (a0_2 + t224)))) = some (r1, r2, r3) := H
 have A6 := zK A60; clear A60
 by_cases c7 : (IntKind.u64.wrap (a0_2 + t224)) < a0_2
 ·rw [if_pos c7] at H
  have c7b0 : decide ((IntKind.u64.wrap (a0_2 + t224)) < a0_2) = true := decide_eq_true c7
  clear c7; replace H := Option.bind_eq_some_iff.mp H
  obtain ⟨⟨t231, t232⟩, A80, H⟩ := H
  replace H : ((sequiturref01_Plus.f t228 t229 t231 t232).bind fun bt233 => (some (bt233.1, bt233.2, IntKind.u64.wrap (a0_2 + t224)))) = some (r1, r2, r3) := H
  have A8 := zK A80; clear A80; replace H := Option.bind_eq_some_iff.mp H
  obtain ⟨⟨t233, t234⟩, A90, H⟩ := H
  replace H : (some (t233, t234, IntKind.u64.wrap (a0_2 + t224))) = some (r1, r2, r3) := H
  have A9 := zK A90; clear A90
  simp only [Option.some.injEq, Prod.mk.injEq] at H
  obtain ⟨rfl, rfl, rfl⟩ := H
  go_enter Try.func115, Try.ntmps115
  try go_wp2_with (first | ((with_reducible refine gate_dst (N := 3) rfl ?_); refine box_event ?hg (N := 3) ?hd (cs := #[.int .i64 a0_0, .int .u64 a0_1, .int .u64 a0_2]) (t := 151) ?hr ?_; (case hd => rfl); (case hg => rfl); (case hr => first | (go_simp; done) | (go_simp; rfl)); intro gb221 hg w10 hbox hb; have BK221 := zK (hbox); have GW221 := zK ((by rw [hg]; exact (below_size (zo HB)) : w.heap.size ≤ gb221)); have GE221 := zK ((by rw [hg]; exact (below_size (zo HB)) : w.heap.size ≤ gb221)); replace HB := zK (below_step (zo HB) hb); clear hb hbox hg) | ((with_reducible refine gate_dst (N := 6) rfl ?_); refine box_event ?hg (N := 6) ?hd (cs := #[.int .i64 0, .int .u64 0, .int .u64 0]) (t := 151) ?hr ?_; (case hd => rfl); (case hg => rfl); (case hr => first | (go_simp; done) | (go_simp; rfl)); intro gb222 hg w11 hbox hb; have BK222 := zK (hbox); have GW222 := zK ((by rw [hg]; exact (below_size (zo HB)) : w.heap.size ≤ gb222)); have GE222 := zK ((by rw [hg]; exact (below_size (zo HB)) : w.heap.size ≤ gb222)); replace HB := zK (below_step (zo HB) hb); have NB221_222 := zK ((by rw [hg]; exact Nat.ne_of_lt (blk_lt (g := gb221) (o := .cells #[.int .i64 a0_0, .int .u64 a0_1, .int .u64 a0_2] 151 (0, 0)) (zb BK221)) : gb221 ≠ gb222)); have NB222_221 := zK ((by rw [hg]; exact Nat.ne_of_gt (blk_lt (g := gb221) (o := .cells #[.int .i64 a0_0, .int .u64 a0_1, .int .u64 a0_2] 151 (0, 0)) (zb BK221)) : gb222 ≠ gb221)); replace BK221 := zK (blk_below (g := gb221) (o := .cells #[.int .i64 a0_0, .int .u64 a0_1, .int .u64 a0_2] 151 (0, 0)) (zb BK221) hb); clear hb hbox hg) | ((with_reducible refine zC (f := 78) rfl ?_); refine goesL_ (some 12) rfl rfl Try.func78 (by kernel_rfl) rfl #[.int .i64 a1, .int .i64 a2] rfl (by (try simp only [List.map_toArray, List.map_cons, List.map_nil]); first | done | rfl | (simp only [List.length_drop, List.length_take]; rfl)) ?_; (with_reducible refine (sequiturref01_Times.calls k a1 a2 t223 t224 _ A4.out).mono ?_); rintro e w12 ⟨rfl, hb⟩; refine ⟨_, rfl, ?_⟩; replace BK221 := zK (blk_below (g := gb221) (o := .cells #[.int .i64 a0_0, .int .u64 a0_1, .int .u64 a0_2] 151 (0, 0)) (zb BK221) hb); replace BK222 := zK (blk_below (g := gb222) (o := .cells #[.int .i64 0, .int .u64 0, .int .u64 0] 151 (0, 0)) (zb BK222) hb); replace HB := zK (below_step (zo HB) hb); (try clear hb); (try clear hb2); (try clear hk); (try clear hi)) | ((with_reducible refine gate_dst (N := 7) rfl ?_); refine box_event ?hg (N := 7) ?hd (cs := #[.int .i64 0, .int .u64 0]) (t := 107) ?hr ?_; (case hd => rfl); (case hg => rfl); (case hr => first | (go_simp; done) | (go_simp; rfl)); intro gb225 hg w13 hbox hb; have BK225 := zK (hbox); have GW225 := zK ((by rw [hg]; exact (below_size (zo HB)) : w.heap.size ≤ gb225)); have GE225 := zK ((by rw [hg]; exact (below_size (zo HB)) : w.heap.size ≤ gb225)); replace HB := zK (below_step (zo HB) hb); have NB221_225 := zK ((by rw [hg]; exact Nat.ne_of_lt (blk_lt (g := gb221) (o := .cells #[.int .i64 a0_0, .int .u64 a0_1, .int .u64 a0_2] 151 (0, 0)) (zb BK221)) : gb221 ≠ gb225)); have NB225_221 := zK ((by rw [hg]; exact Nat.ne_of_gt (blk_lt (g := gb221) (o := .cells #[.int .i64 a0_0, .int .u64 a0_1, .int .u64 a0_2] 151 (0, 0)) (zb BK221)) : gb225 ≠ gb221)); replace BK221 := zK (blk_below (g := gb221) (o := .cells #[.int .i64 a0_0, .int .u64 a0_1, .int .u64 a0_2] 151 (0, 0)) (zb BK221) hb); have NB222_225 := zK ((by rw [hg]; exact Nat.ne_of_lt (blk_lt (g := gb222) (o := .cells #[.int .i64 0, .int .u64 0, .int .u64 0] 151 (0, 0)) (zb BK222)) : gb222 ≠ gb225)); have NB225_222 := zK ((by rw [hg]; exact Nat.ne_of_gt (blk_lt (g := gb222) (o := .cells #[.int .i64 0, .int .u64 0, .int .u64 0] 151 (0, 0)) (zb BK222)) : gb225 ≠ gb222)); replace BK222 := zK (blk_below (g := gb222) (o := .cells #[.int .i64 0, .int .u64 0, .int .u64 0] 151 (0, 0)) (zb BK222) hb); clear hb hbox hg; have hnb14 := NB225_221.out; have hnc14 := NB221_225.out; have hnb15 := NB225_222.out; have hnc15 := NB222_225.out; have hcz16_0 : w13.cell? ⟨gb225, 0, none⟩ = some (.int .i64 0) := (blk_cell BK225.out 0).trans rfl; have hcz16_1 : w13.cell? ⟨gb225, 1, none⟩ = some (.int .u64 0) := (blk_cell BK225.out 1).trans rfl; have hfz16_0 := blk_frozen BK225.out 0; have hfz16_1 := blk_frozen BK225.out 1; have hnb17 := NB221_222.out; have hnc17 := NB222_221.out; have hcz18_0 : w13.cell? ⟨gb221, 0, none⟩ = some (.int .i64 a0_0) := (blk_cell BK221.out 0).trans rfl; have hcz18_1 : w13.cell? ⟨gb221, 1, none⟩ = some (.int .u64 a0_1) := (blk_cell BK221.out 1).trans rfl; have hcz18_2 : w13.cell? ⟨gb221, 2, none⟩ = some (.int .u64 a0_2) := (blk_cell BK221.out 2).trans rfl; have hfz18_0 := blk_frozen BK221.out 0; have hfz18_1 := blk_frozen BK221.out 1; have hfz18_2 := blk_frozen BK221.out 2))
  have n0_ : Aside0 (((w13.setCell ⟨gb225, 0, none⟩ (.int .i64 t223)).setCell ⟨gb225, 1, none⟩ (.int .u64 t224)).heap[gb221]? = some (.cells #[.int .i64 a0_0, .int .u64 a0_1, .int .u64 a0_2] 151 (0, 0))) := ⟨zb BK221⟩
  have n1_ : Aside0 (((w13.setCell ⟨gb225, 0, none⟩ (.int .i64 t223)).setCell ⟨gb225, 1, none⟩ (.int .u64 t224)).heap[gb222]? = some (.cells #[.int .i64 0, .int .u64 0, .int .u64 0] 151 (0, 0))) := ⟨zb BK222⟩
  have n2_ : Aside0 (((w13.setCell ⟨gb225, 0, none⟩ (.int .i64 t223)).setCell ⟨gb225, 1, none⟩ (.int .u64 t224)).heap[gb225]? = some (.cells #[.int .i64 t223, .int .u64 t224] 107 (0, 0))) := ⟨by refine zM ?_; refine blk_put (cs := #[.int .i64 t223, .int .u64 0]) ?_ 1 _ rfl; refine zM ?_; refine blk_put (cs := #[.int .i64 0, .int .u64 0]) ?_ 0 _ rfl; refine zM ?_; exact BK225.out⟩
  have n3_ : Aside0 (Below w.heap.size w ((w13.setCell ⟨gb225, 0, none⟩ (.int .i64 t223)).setCell ⟨gb225, 1, none⟩ (.int .u64 t224))) := ⟨zo HB⟩
  (try clear BK221)
  (try clear BK222)
  (try clear BK225)
  (try clear HB)
  generalize ((w13.setCell ⟨gb225, 0, none⟩ (.int .i64 t223)).setCell ⟨gb225, 1, none⟩ (.int .u64 t224)) = w19 at n0_ n1_ n2_ n3_ ⊢
  have BK221 := n0_
  have BK222 := n1_
  have BK225 := n2_
  have HB := n3_; clear n0_ n1_ n2_ n3_
  replace BK221 := zK (zD BK221.out)
  replace BK222 := zK (zD BK222.out)
  replace BK225 := zK (zD BK225.out)
  replace HB := zK (yD HB.out)
  refine start_ (n := 8) (S := fun w' => w'.cell? ⟨gb221, 0, none⟩ = some (.int .i64 a0_0) ∧ w'.cell? ⟨gb221, 1, none⟩ = some (.int .u64 a0_1) ∧ w'.cell? ⟨gb221, 2, none⟩ = some (.int .u64 a0_2) ∧ w'.cell? ⟨gb225, 0, none⟩ = some (.int .i64 t223) ∧ w'.cell? ⟨gb225, 1, none⟩ = some (.int .u64 t224)) (ds := []) #[F_,F_,F_,F_,F_,F_,F_,F_] (by kernel_rfl) rfl rfl ⟨(blk_cell BK221.out 0).trans rfl, (blk_cell BK221.out 1).trans rfl, (blk_cell BK221.out 2).trans rfl, (blk_cell BK225.out 0).trans rfl, (blk_cell BK225.out 1).trans rfl⟩ (fun hHeld => ?_); refine with_tabW sequiturref28_More.tab3 sequiturref28_More.bits3 (fun HT_ HW_ => ?_)
  generalize w19.drew = w20 at BK221 BK222 BK225 HB hHeld ⊢
  refine pure_ (i := 0) (N := some 18) (v := ?_) (a' := ?_) #[T_,F_,F_,F_,F_,F_,F_,F_] rfl rfl (any_of HT_.out (by kernel_rfl)) (fun _ _ _ h => h) (Or.inl ⟨by rfl, ?_⟩) ?_ ?_; rotate_left; (intro w'; go_simp; with_reducible rfl); rotate_left; (simp only [Act.put, zt, zz, zs, i64_w, i32_w]; rfl)
  refine pure_ (i := 2) (N := some 20) (v := ?_) (a' := ?_) #[T_,F_,T_,F_,F_,F_,F_,F_] rfl rfl (any_of HT_.out (by kernel_rfl)) (fun _ _ _ h => h) (Or.inl ⟨by rfl, ?_⟩) ?_ ?_; rotate_left; (intro w'; go_simp; with_reducible rfl); rotate_left; (simp only [Act.put, zt, zz, zs, i64_w, i32_w]; rfl)
  refine take_ (i := 1) (N := some 19) (v := ?_) (a' := ?_) #[T_,T_,T_,F_,F_,F_,F_,F_] rfl rfl (take_ofW HT_.out HW_.out (by kernel_rfl)) (fun _ _ _ h => h) (Or.inl ⟨by rfl, ?_⟩) hHeld ?_ ?_; rotate_left; (rintro w' ⟨s0, s1, s2, s3, s4⟩; go_simp; with_reducible rfl); rotate_left; (simp only [Act.put, zt, zz, zs, i64_w, i32_w]; rfl)
  refine take_ (i := 3) (N := some 21) (v := ?_) (a' := ?_) #[T_,T_,T_,T_,F_,F_,F_,F_] rfl rfl (take_ofW HT_.out HW_.out (by kernel_rfl)) (fun _ _ _ h => h) (Or.inl ⟨by rfl, ?_⟩) hHeld ?_ ?_; rotate_left; (rintro w' ⟨s0, s1, s2, s3, s4⟩; go_simp; with_reducible rfl); rotate_left; (simp only [Act.put, zt, zz, zs, i64_w, i32_w]; rfl)
  refine join_ (σ := Nat) 1 #[T_,T_,T_,T_,T_,T_,T_,F_] (fun s_ => [(22, .agg #[.int .i64 t226, .int .u64 t227]), (23, .agg #[.int .i64 t228, .int .u64 t229]), (9, .pointer (some ⟨s_, 0, none⟩))]) (fun s_ w' => (w'.cell? ⟨gb221, 0, none⟩ = some (.int .i64 a0_0) ∧ w'.cell? ⟨gb221, 1, none⟩ = some (.int .u64 a0_1) ∧ w'.cell? ⟨gb221, 2, none⟩ = some (.int .u64 a0_2) ∧ w'.cell? ⟨gb225, 0, none⟩ = some (.int .i64 t223) ∧ w'.cell? ⟨gb225, 1, none⟩ = some (.int .u64 t224)) ∧ (w'.heap[gb221]? = some (.cells #[.int .i64 a0_0, .int .u64 a0_1, .int .u64 a0_2] 151 (0, 0))) ∧ (w'.heap[gb222]? = some (.cells #[.int .i64 0, .int .u64 0, .int .u64 0] 151 (0, 0))) ∧ (w'.heap[gb225]? = some (.cells #[.int .i64 t223, .int .u64 t224] 107 (0, 0))) ∧ (w'.heap[s_]? = some (.cells #[.int .i64 0, .int .u64 0] 107 (0, 0))) ∧ (w.heap.size ≤ s_) ∧ (w.heap.size ≤ s_) ∧ (gb221 ≠ s_) ∧ (s_ ≠ gb221) ∧ (gb222 ≠ s_) ∧ (s_ ≠ gb222) ∧ (gb225 ≠ s_) ∧ (s_ ≠ gb225) ∧ (Below w.heap.size w w')) ?_ ?_
  rotate_left
  ·intro hCont
   refine two_ (i := 4) (j := 6) (Ni := some 22) (Nj := some 9) #[T_,T_,T_,T_,T_,F_,F_,F_] #[T_,T_,T_,T_,F_,F_,T_,F_] rfl rfl rfl rfl (two_of HT_.out (by kernel_rfl)) (by decide) (by decide) (fun K hK => ?_) (fun K hK => ?_)
   ·skip
    refine goes_ Try.func81 (by kernel_rfl) rfl #[.int .i64 t223] (by rfl) rfl rfl (by (try simp only [List.map_toArray, List.map_cons, List.map_nil]); first | done | rfl | (simp only [List.length_drop, List.length_take]; rfl)) ?_
    with_reducible refine (sequiturref01_Of.calls t223 t226 t227 _ A5.out).mono ?_
    rintro e w21 ⟨rfl, hb⟩
    refine ⟨_, rfl, ?_⟩
    replace BK221 := zK (blk_below (g := gb221) (o := .cells #[.int .i64 a0_0, .int .u64 a0_1, .int .u64 a0_2] 151 (0, 0)) (zb BK221) hb)
    replace BK222 := zK (blk_below (g := gb222) (o := .cells #[.int .i64 0, .int .u64 0, .int .u64 0] 151 (0, 0)) (zb BK222) hb)
    replace BK225 := zK (blk_below (g := gb225) (o := .cells #[.int .i64 t223, .int .u64 t224] 107 (0, 0)) (zb BK225) hb)
    replace HB := zK (below_step (zo HB) hb)
    (try clear hb); (try clear hb2); (try clear hk); (try clear hi)
    refine hK.out _ _ ⟨(blk_cell BK221.out 0).trans rfl, (blk_cell BK221.out 1).trans rfl, (blk_cell BK221.out 2).trans rfl, (blk_cell BK225.out 0).trans rfl, (blk_cell BK225.out 1).trans rfl⟩ (fun hHeld => ?_)
    clear hK K
    refine norm_ (a' := ?_) ?_ ?_; rotate_left; (show Act.put _ (some 22) _ = _; simp only [Act.put, zt, zz, zs, i64_w, i32_w]; rfl)
    refine two_ (i := 5) (j := 6) (Ni := some 23) (Nj := some 9) #[T_,T_,T_,T_,T_,T_,F_,F_] #[T_,T_,T_,T_,T_,F_,T_,F_] rfl rfl rfl rfl (two_of HT_.out (by kernel_rfl)) (by decide) (by decide) (fun K hK => ?_) (fun K hK => ?_)
    ·skip
     refine goes_ Try.func79 (by kernel_rfl) rfl #[.agg #[.int .i64 a0_0, .int .u64 a0_1], .agg #[.int .i64 t226, .int .u64 t227]] (by rfl) rfl rfl (by (try simp only [List.map_toArray, List.map_cons, List.map_nil]); first | done | rfl | (simp only [List.length_drop, List.length_take]; rfl)) ?_
     with_reducible refine (sequiturref01_Plus.calls a0_0 a0_1 t226 t227 t228 t229 _ A6.out).mono ?_
     rintro e w22 ⟨rfl, hb⟩
     refine ⟨_, rfl, ?_⟩
     replace BK221 := zK (blk_below (g := gb221) (o := .cells #[.int .i64 a0_0, .int .u64 a0_1, .int .u64 a0_2] 151 (0, 0)) (zb BK221) hb)
     replace BK222 := zK (blk_below (g := gb222) (o := .cells #[.int .i64 0, .int .u64 0, .int .u64 0] 151 (0, 0)) (zb BK222) hb)
     replace BK225 := zK (blk_below (g := gb225) (o := .cells #[.int .i64 t223, .int .u64 t224] 107 (0, 0)) (zb BK225) hb)
     replace HB := zK (below_step (zo HB) hb)
     (try clear hb); (try clear hb2); (try clear hk); (try clear hi)
     refine hK.out _ _ ⟨(blk_cell BK221.out 0).trans rfl, (blk_cell BK221.out 1).trans rfl, (blk_cell BK221.out 2).trans rfl, (blk_cell BK225.out 0).trans rfl, (blk_cell BK225.out 1).trans rfl⟩ (fun hHeld => ?_)
     clear hK K
     refine norm_ (a' := ?_) ?_ ?_; rotate_left; (show Act.put _ (some 23) _ = _; simp only [Act.put, zt, zz, zs, i64_w, i32_w]; rfl)
     refine one_ (i := 6) (N := some 9) #[T_,T_,T_,T_,T_,T_,T_,F_] rfl rfl (one_of HT_.out (by kernel_rfl)) (by decide) (fun K hK => ?_)
     refine box_step ?hg (N := 9) ?hd (cs := #[.int .i64 0, .int .u64 0]) (t := 107) ?hr ?_; (case hd => rfl); (case hg => rfl); (case hr => first | (go_simp; done) | (go_simp; rfl))
     intro gb230 hg w23 hbox hb
     have BK230 := zK (hbox)
     have GW230 := zK ((by rw [hg]; exact (below_size (zo HB)) : w.heap.size ≤ gb230))
     have GE230 := zK ((by rw [hg]; exact (below_size (zo HB)) : w.heap.size ≤ gb230))
     replace HB := zK (below_step (zo HB) hb)
     have NB221_230 := zK ((by rw [hg]; exact Nat.ne_of_lt (blk_lt (g := gb221) (o := .cells #[.int .i64 a0_0, .int .u64 a0_1, .int .u64 a0_2] 151 (0, 0)) (zb BK221)) : gb221 ≠ gb230))
     have NB230_221 := zK ((by rw [hg]; exact Nat.ne_of_gt (blk_lt (g := gb221) (o := .cells #[.int .i64 a0_0, .int .u64 a0_1, .int .u64 a0_2] 151 (0, 0)) (zb BK221)) : gb230 ≠ gb221))
     replace BK221 := zK (blk_below (g := gb221) (o := .cells #[.int .i64 a0_0, .int .u64 a0_1, .int .u64 a0_2] 151 (0, 0)) (zb BK221) hb)
     have NB222_230 := zK ((by rw [hg]; exact Nat.ne_of_lt (blk_lt (g := gb222) (o := .cells #[.int .i64 0, .int .u64 0, .int .u64 0] 151 (0, 0)) (zb BK222)) : gb222 ≠ gb230))
     have NB230_222 := zK ((by rw [hg]; exact Nat.ne_of_gt (blk_lt (g := gb222) (o := .cells #[.int .i64 0, .int .u64 0, .int .u64 0] 151 (0, 0)) (zb BK222)) : gb230 ≠ gb222))
     replace BK222 := zK (blk_below (g := gb222) (o := .cells #[.int .i64 0, .int .u64 0, .int .u64 0] 151 (0, 0)) (zb BK222) hb)
     have NB225_230 := zK ((by rw [hg]; exact Nat.ne_of_lt (blk_lt (g := gb225) (o := .cells #[.int .i64 t223, .int .u64 t224] 107 (0, 0)) (zb BK225)) : gb225 ≠ gb230))
     have NB230_225 := zK ((by rw [hg]; exact Nat.ne_of_gt (blk_lt (g := gb225) (o := .cells #[.int .i64 t223, .int .u64 t224] 107 (0, 0)) (zb BK225)) : gb230 ≠ gb225))
     replace BK225 := zK (blk_below (g := gb225) (o := .cells #[.int .i64 t223, .int .u64 t224] 107 (0, 0)) (zb BK225) hb)
     clear hb hbox hg
     refine hK.out _ _ ⟨(blk_cell BK221.out 0).trans rfl, (blk_cell BK221.out 1).trans rfl, (blk_cell BK221.out 2).trans rfl, (blk_cell BK225.out 0).trans rfl, (blk_cell BK225.out 1).trans rfl⟩ (fun hHeld => ?_)
     clear hK K
     refine norm_ (a' := ?_) ?_ ?_; rotate_left; (show Act.put _ (some 9) _ = _; simp only [Act.put, zt, zz, zs, i64_w, i32_w]; rfl)
     exact norm_ (by simp only [putAll, Act.put, zt, zz, zs]) (hCont (gb230) _ ⟨hHeld, (zb BK221), (zb BK222), (zb BK225), (zb BK230), GW230.out, GE230.out, NB221_230.out, NB230_221.out, NB222_230.out, NB230_222.out, NB225_230.out, NB230_225.out, (zo HB)⟩)
    ·skip
     refine box_step ?hg (N := 9) ?hd (cs := #[.int .i64 0, .int .u64 0]) (t := 107) ?hr ?_; (case hd => rfl); (case hg => rfl); (case hr => first | (go_simp; done) | (go_simp; rfl))
     intro gb230 hg w22 hbox hb
     have BK230 := zK (hbox)
     have GW230 := zK ((by rw [hg]; exact (below_size (zo HB)) : w.heap.size ≤ gb230))
     have GE230 := zK ((by rw [hg]; exact (below_size (zo HB)) : w.heap.size ≤ gb230))
     replace HB := zK (below_step (zo HB) hb)
     have NB221_230 := zK ((by rw [hg]; exact Nat.ne_of_lt (blk_lt (g := gb221) (o := .cells #[.int .i64 a0_0, .int .u64 a0_1, .int .u64 a0_2] 151 (0, 0)) (zb BK221)) : gb221 ≠ gb230))
     have NB230_221 := zK ((by rw [hg]; exact Nat.ne_of_gt (blk_lt (g := gb221) (o := .cells #[.int .i64 a0_0, .int .u64 a0_1, .int .u64 a0_2] 151 (0, 0)) (zb BK221)) : gb230 ≠ gb221))
     replace BK221 := zK (blk_below (g := gb221) (o := .cells #[.int .i64 a0_0, .int .u64 a0_1, .int .u64 a0_2] 151 (0, 0)) (zb BK221) hb)
     have NB222_230 := zK ((by rw [hg]; exact Nat.ne_of_lt (blk_lt (g := gb222) (o := .cells #[.int .i64 0, .int .u64 0, .int .u64 0] 151 (0, 0)) (zb BK222)) : gb222 ≠ gb230))
     have NB230_222 := zK ((by rw [hg]; exact Nat.ne_of_gt (blk_lt (g := gb222) (o := .cells #[.int .i64 0, .int .u64 0, .int .u64 0] 151 (0, 0)) (zb BK222)) : gb230 ≠ gb222))
     replace BK222 := zK (blk_below (g := gb222) (o := .cells #[.int .i64 0, .int .u64 0, .int .u64 0] 151 (0, 0)) (zb BK222) hb)
     have NB225_230 := zK ((by rw [hg]; exact Nat.ne_of_lt (blk_lt (g := gb225) (o := .cells #[.int .i64 t223, .int .u64 t224] 107 (0, 0)) (zb BK225)) : gb225 ≠ gb230))
     have NB230_225 := zK ((by rw [hg]; exact Nat.ne_of_gt (blk_lt (g := gb225) (o := .cells #[.int .i64 t223, .int .u64 t224] 107 (0, 0)) (zb BK225)) : gb230 ≠ gb225))
     replace BK225 := zK (blk_below (g := gb225) (o := .cells #[.int .i64 t223, .int .u64 t224] 107 (0, 0)) (zb BK225) hb)
     clear hb hbox hg
     refine hK.out _ _ ⟨(blk_cell BK221.out 0).trans rfl, (blk_cell BK221.out 1).trans rfl, (blk_cell BK221.out 2).trans rfl, (blk_cell BK225.out 0).trans rfl, (blk_cell BK225.out 1).trans rfl⟩ (fun hHeld => ?_)
     clear hK K
     refine norm_ (a' := ?_) ?_ ?_; rotate_left; (show Act.put _ (some 9) _ = _; simp only [Act.put, zt, zz, zs, i64_w, i32_w]; rfl)
     refine one_ (i := 5) (N := some 23) #[T_,T_,T_,T_,T_,T_,T_,F_] rfl rfl (one_of HT_.out (by kernel_rfl)) (by decide) (fun K hK => ?_)
     refine goes_ Try.func79 (by kernel_rfl) rfl #[.agg #[.int .i64 a0_0, .int .u64 a0_1], .agg #[.int .i64 t226, .int .u64 t227]] (by rfl) rfl rfl (by (try simp only [List.map_toArray, List.map_cons, List.map_nil]); first | done | rfl | (simp only [List.length_drop, List.length_take]; rfl)) ?_
     with_reducible refine (sequiturref01_Plus.calls a0_0 a0_1 t226 t227 t228 t229 _ A6.out).mono ?_
     rintro e w23 ⟨rfl, hb⟩
     refine ⟨_, rfl, ?_⟩
     replace BK221 := zK (blk_below (g := gb221) (o := .cells #[.int .i64 a0_0, .int .u64 a0_1, .int .u64 a0_2] 151 (0, 0)) (zb BK221) hb)
     replace BK222 := zK (blk_below (g := gb222) (o := .cells #[.int .i64 0, .int .u64 0, .int .u64 0] 151 (0, 0)) (zb BK222) hb)
     replace BK225 := zK (blk_below (g := gb225) (o := .cells #[.int .i64 t223, .int .u64 t224] 107 (0, 0)) (zb BK225) hb)
     replace BK230 := zK (blk_below (g := gb230) (o := .cells #[.int .i64 0, .int .u64 0] 107 (0, 0)) (zb BK230) hb)
     replace HB := zK (below_step (zo HB) hb)
     (try clear hb); (try clear hb2); (try clear hk); (try clear hi)
     refine hK.out _ _ ⟨(blk_cell BK221.out 0).trans rfl, (blk_cell BK221.out 1).trans rfl, (blk_cell BK221.out 2).trans rfl, (blk_cell BK225.out 0).trans rfl, (blk_cell BK225.out 1).trans rfl⟩ (fun hHeld => ?_)
     clear hK K
     refine norm_ (a' := ?_) ?_ ?_; rotate_left; (show Act.put _ (some 23) _ = _; simp only [Act.put, zt, zz, zs, i64_w, i32_w]; rfl)
     exact norm_ (by simp only [putAll, Act.put, zt, zz, zs]) (hCont (gb230) _ ⟨hHeld, (zb BK221), (zb BK222), (zb BK225), (zb BK230), GW230.out, GE230.out, NB221_230.out, NB230_221.out, NB222_230.out, NB230_222.out, NB225_230.out, NB230_225.out, (zo HB)⟩)
   ·skip
    refine box_step ?hg (N := 9) ?hd (cs := #[.int .i64 0, .int .u64 0]) (t := 107) ?hr ?_; (case hd => rfl); (case hg => rfl); (case hr => first | (go_simp; done) | (go_simp; rfl))
    intro gb230 hg w21 hbox hb
    have BK230 := zK (hbox)
    have GW230 := zK ((by rw [hg]; exact (below_size (zo HB)) : w.heap.size ≤ gb230))
    have GE230 := zK ((by rw [hg]; exact (below_size (zo HB)) : w.heap.size ≤ gb230))
    replace HB := zK (below_step (zo HB) hb)
    have NB221_230 := zK ((by rw [hg]; exact Nat.ne_of_lt (blk_lt (g := gb221) (o := .cells #[.int .i64 a0_0, .int .u64 a0_1, .int .u64 a0_2] 151 (0, 0)) (zb BK221)) : gb221 ≠ gb230))
    have NB230_221 := zK ((by rw [hg]; exact Nat.ne_of_gt (blk_lt (g := gb221) (o := .cells #[.int .i64 a0_0, .int .u64 a0_1, .int .u64 a0_2] 151 (0, 0)) (zb BK221)) : gb230 ≠ gb221))
    replace BK221 := zK (blk_below (g := gb221) (o := .cells #[.int .i64 a0_0, .int .u64 a0_1, .int .u64 a0_2] 151 (0, 0)) (zb BK221) hb)
    have NB222_230 := zK ((by rw [hg]; exact Nat.ne_of_lt (blk_lt (g := gb222) (o := .cells #[.int .i64 0, .int .u64 0, .int .u64 0] 151 (0, 0)) (zb BK222)) : gb222 ≠ gb230))
    have NB230_222 := zK ((by rw [hg]; exact Nat.ne_of_gt (blk_lt (g := gb222) (o := .cells #[.int .i64 0, .int .u64 0, .int .u64 0] 151 (0, 0)) (zb BK222)) : gb230 ≠ gb222))
    replace BK222 := zK (blk_below (g := gb222) (o := .cells #[.int .i64 0, .int .u64 0, .int .u64 0] 151 (0, 0)) (zb BK222) hb)
    have NB225_230 := zK ((by rw [hg]; exact Nat.ne_of_lt (blk_lt (g := gb225) (o := .cells #[.int .i64 t223, .int .u64 t224] 107 (0, 0)) (zb BK225)) : gb225 ≠ gb230))
    have NB230_225 := zK ((by rw [hg]; exact Nat.ne_of_gt (blk_lt (g := gb225) (o := .cells #[.int .i64 t223, .int .u64 t224] 107 (0, 0)) (zb BK225)) : gb230 ≠ gb225))
    replace BK225 := zK (blk_below (g := gb225) (o := .cells #[.int .i64 t223, .int .u64 t224] 107 (0, 0)) (zb BK225) hb)
    clear hb hbox hg
    refine hK.out _ _ ⟨(blk_cell BK221.out 0).trans rfl, (blk_cell BK221.out 1).trans rfl, (blk_cell BK221.out 2).trans rfl, (blk_cell BK225.out 0).trans rfl, (blk_cell BK225.out 1).trans rfl⟩ (fun hHeld => ?_)
    clear hK K
    refine norm_ (a' := ?_) ?_ ?_; rotate_left; (show Act.put _ (some 9) _ = _; simp only [Act.put, zt, zz, zs, i64_w, i32_w]; rfl)
    refine one_ (i := 4) (N := some 22) #[T_,T_,T_,T_,T_,F_,T_,F_] rfl rfl (one_of HT_.out (by kernel_rfl)) (by decide) (fun K hK => ?_)
    refine goes_ Try.func81 (by kernel_rfl) rfl #[.int .i64 t223] (by rfl) rfl rfl (by (try simp only [List.map_toArray, List.map_cons, List.map_nil]); first | done | rfl | (simp only [List.length_drop, List.length_take]; rfl)) ?_
    with_reducible refine (sequiturref01_Of.calls t223 t226 t227 _ A5.out).mono ?_
    rintro e w22 ⟨rfl, hb⟩
    refine ⟨_, rfl, ?_⟩
    replace BK221 := zK (blk_below (g := gb221) (o := .cells #[.int .i64 a0_0, .int .u64 a0_1, .int .u64 a0_2] 151 (0, 0)) (zb BK221) hb)
    replace BK222 := zK (blk_below (g := gb222) (o := .cells #[.int .i64 0, .int .u64 0, .int .u64 0] 151 (0, 0)) (zb BK222) hb)
    replace BK225 := zK (blk_below (g := gb225) (o := .cells #[.int .i64 t223, .int .u64 t224] 107 (0, 0)) (zb BK225) hb)
    replace BK230 := zK (blk_below (g := gb230) (o := .cells #[.int .i64 0, .int .u64 0] 107 (0, 0)) (zb BK230) hb)
    replace HB := zK (below_step (zo HB) hb)
    (try clear hb); (try clear hb2); (try clear hk); (try clear hi)
    refine hK.out _ _ ⟨(blk_cell BK221.out 0).trans rfl, (blk_cell BK221.out 1).trans rfl, (blk_cell BK221.out 2).trans rfl, (blk_cell BK225.out 0).trans rfl, (blk_cell BK225.out 1).trans rfl⟩ (fun hHeld => ?_)
    clear hK K
    refine norm_ (a' := ?_) ?_ ?_; rotate_left; (show Act.put _ (some 22) _ = _; simp only [Act.put, zt, zz, zs, i64_w, i32_w]; rfl)
    refine one_ (i := 5) (N := some 23) #[T_,T_,T_,T_,T_,T_,T_,F_] rfl rfl (one_of HT_.out (by kernel_rfl)) (by decide) (fun K hK => ?_)
    refine goes_ Try.func79 (by kernel_rfl) rfl #[.agg #[.int .i64 a0_0, .int .u64 a0_1], .agg #[.int .i64 t226, .int .u64 t227]] (by rfl) rfl rfl (by (try simp only [List.map_toArray, List.map_cons, List.map_nil]); first | done | rfl | (simp only [List.length_drop, List.length_take]; rfl)) ?_
    with_reducible refine (sequiturref01_Plus.calls a0_0 a0_1 t226 t227 t228 t229 _ A6.out).mono ?_
    rintro e w23 ⟨rfl, hb⟩
    refine ⟨_, rfl, ?_⟩
    replace BK221 := zK (blk_below (g := gb221) (o := .cells #[.int .i64 a0_0, .int .u64 a0_1, .int .u64 a0_2] 151 (0, 0)) (zb BK221) hb)
    replace BK222 := zK (blk_below (g := gb222) (o := .cells #[.int .i64 0, .int .u64 0, .int .u64 0] 151 (0, 0)) (zb BK222) hb)
    replace BK225 := zK (blk_below (g := gb225) (o := .cells #[.int .i64 t223, .int .u64 t224] 107 (0, 0)) (zb BK225) hb)
    replace BK230 := zK (blk_below (g := gb230) (o := .cells #[.int .i64 0, .int .u64 0] 107 (0, 0)) (zb BK230) hb)
    replace HB := zK (below_step (zo HB) hb)
    (try clear hb); (try clear hb2); (try clear hk); (try clear hi)
    refine hK.out _ _ ⟨(blk_cell BK221.out 0).trans rfl, (blk_cell BK221.out 1).trans rfl, (blk_cell BK221.out 2).trans rfl, (blk_cell BK225.out 0).trans rfl, (blk_cell BK225.out 1).trans rfl⟩ (fun hHeld => ?_)
    clear hK K
    refine norm_ (a' := ?_) ?_ ?_; rotate_left; (show Act.put _ (some 23) _ = _; simp only [Act.put, zt, zz, zs, i64_w, i32_w]; rfl)
    exact norm_ (by simp only [putAll, Act.put, zt, zz, zs]) (hCont (gb230) _ ⟨hHeld, (zb BK221), (zb BK222), (zb BK225), (zb BK230), GW230.out, GE230.out, NB221_230.out, NB230_221.out, NB222_230.out, NB230_222.out, NB225_230.out, NB230_225.out, (zo HB)⟩)
  rintro gb230 w24 ⟨hS_, h0_, h1_, h2_, h3_, h4_, h5_, h6_, h7_, h8_, h9_, h10_, h11_, h12_⟩
  have n0_ : Aside0 (w24.heap[gb221]? = some (.cells #[.int .i64 a0_0, .int .u64 a0_1, .int .u64 a0_2] 151 (0, 0))) := ⟨h0_⟩
  have n1_ : Aside0 (w24.heap[gb222]? = some (.cells #[.int .i64 0, .int .u64 0, .int .u64 0] 151 (0, 0))) := ⟨h1_⟩
  have n2_ : Aside0 (w24.heap[gb225]? = some (.cells #[.int .i64 t223, .int .u64 t224] 107 (0, 0))) := ⟨h2_⟩
  have n3_ : Aside0 (w24.heap[gb230]? = some (.cells #[.int .i64 0, .int .u64 0] 107 (0, 0))) := ⟨h3_⟩
  have n4_ : Aside0 (w.heap.size ≤ gb230) := ⟨h4_⟩
  have n5_ : Aside0 (w.heap.size ≤ gb230) := ⟨h5_⟩
  have n6_ : Aside0 (gb221 ≠ gb230) := ⟨h6_⟩
  have n7_ : Aside0 (gb230 ≠ gb221) := ⟨h7_⟩
  have n8_ : Aside0 (gb222 ≠ gb230) := ⟨h8_⟩
  have n9_ : Aside0 (gb230 ≠ gb222) := ⟨h9_⟩
  have n10_ : Aside0 (gb225 ≠ gb230) := ⟨h10_⟩
  have n11_ : Aside0 (gb230 ≠ gb225) := ⟨h11_⟩
  have n12_ : Aside0 (Below w.heap.size w w24) := ⟨h12_⟩
  clear BK221 BK222 BK225 HB h0_ h1_ h2_ h3_ h4_ h5_ h6_ h7_ h8_ h9_ h10_ h11_ h12_
  have BK221 := n0_
  have BK222 := n1_
  have BK225 := n2_
  have BK230 := n3_
  have GW230 := n4_
  have GE230 := n5_
  have NB221_230 := n6_
  have NB230_221 := n7_
  have NB222_230 := n8_
  have NB230_222 := n9_
  have NB225_230 := n10_
  have NB230_225 := n11_
  have HB := n12_
  clear n0_ n1_ n2_ n3_ n4_ n5_ n6_ n7_ n8_ n9_ n10_ n11_ n12_
  have hHeld : w24.cell? ⟨gb221, 0, none⟩ = some (.int .i64 a0_0) ∧ w24.cell? ⟨gb221, 1, none⟩ = some (.int .u64 a0_1) ∧ w24.cell? ⟨gb221, 2, none⟩ = some (.int .u64 a0_2) ∧ w24.cell? ⟨gb225, 0, none⟩ = some (.int .i64 t223) ∧ w24.cell? ⟨gb225, 1, none⟩ = some (.int .u64 t224) := hS_
  refine norm_ (a' := ?_) ?_ ?_
  rotate_left
  ·simp only [putAll, Act.put, zt, zz, zs]
   rfl
  refine one_ (i := 7) (N := none) #[T_,T_,T_,T_,T_,T_,T_,T_] rfl rfl (one_of HT_.out (by kernel_rfl)) (by decide) (fun K hK => ?_)
  have hs25 : w24.cell? ⟨gb230, 0, none⟩ = some (.int .i64 0) := (blk_cell BK230.out 0).trans rfl
  have hfs25 := blk_frozen BK230.out 0
  have hns25_0 := NB221_230.out
  have hns25_1 := NB222_230.out
  have hns25_2 := NB225_230.out
  have hms25_0 := NB230_221.out
  have hms25_1 := NB230_222.out
  have hms25_2 := NB230_225.out
  have hs26 : w24.cell? ⟨gb230, 1, none⟩ = some (.int .u64 0) := (blk_cell BK230.out 1).trans rfl
  have hfs26 := blk_frozen BK230.out 1
  have hns26_0 := NB221_230.out
  have hns26_1 := NB222_230.out
  have hns26_2 := NB225_230.out
  have hms26_0 := NB230_221.out
  have hms26_1 := NB230_222.out
  have hms26_2 := NB230_225.out
  refine skip_ (w1 := ?_) (by rfl) rfl ?_ ?_
  rotate_left
  ·go_simp
   rfl
  refine hK.out _ _ ⟨((cell_far (p := ⟨gb230, _, none⟩) NB221_230.out _).trans (((cell_far (p := ⟨gb230, _, none⟩) NB221_230.out _).trans (hHeld.1)))), ((cell_far (p := ⟨gb230, _, none⟩) NB221_230.out _).trans (((cell_far (p := ⟨gb230, _, none⟩) NB221_230.out _).trans (hHeld.2.1)))), ((cell_far (p := ⟨gb230, _, none⟩) NB221_230.out _).trans (((cell_far (p := ⟨gb230, _, none⟩) NB221_230.out _).trans (hHeld.2.2.1)))), ((cell_far (p := ⟨gb230, _, none⟩) NB225_230.out _).trans (((cell_far (p := ⟨gb230, _, none⟩) NB225_230.out _).trans (hHeld.2.2.2.1)))), ((cell_far (p := ⟨gb230, _, none⟩) NB225_230.out _).trans (((cell_far (p := ⟨gb230, _, none⟩) NB225_230.out _).trans (hHeld.2.2.2.2))))⟩ (fun hHeld => ?_)
  clear hK K
  refine done_ (done_of HT_.out (by kernel_rfl)) ?_
  have hnb27 := NB221_230.out
  have hnc27 := NB230_221.out
  have hcz28_0 : w24.cell? ⟨gb221, 0, none⟩ = some (.int .i64 a0_0) := (blk_cell BK221.out 0).trans rfl
  have hcz28_1 : w24.cell? ⟨gb221, 1, none⟩ = some (.int .u64 a0_1) := (blk_cell BK221.out 1).trans rfl
  have hcz28_2 : w24.cell? ⟨gb221, 2, none⟩ = some (.int .u64 a0_2) := (blk_cell BK221.out 2).trans rfl
  have hfz28_0 := blk_frozen BK221.out 0
  have hfz28_1 := blk_frozen BK221.out 1
  have hfz28_2 := blk_frozen BK221.out 2
  try go_wp2
  have n0_ : Aside0 (((w24.setCell ⟨gb230, 0, none⟩ (.int .i64 t228)).setCell ⟨gb230, 1, none⟩ (.int .u64 t229)).heap[gb221]? = some (.cells #[.int .i64 a0_0, .int .u64 a0_1, .int .u64 a0_2] 151 (0, 0))) := ⟨zb BK221⟩
  have n1_ : Aside0 (((w24.setCell ⟨gb230, 0, none⟩ (.int .i64 t228)).setCell ⟨gb230, 1, none⟩ (.int .u64 t229)).heap[gb222]? = some (.cells #[.int .i64 0, .int .u64 0, .int .u64 0] 151 (0, 0))) := ⟨zb BK222⟩
  have n2_ : Aside0 (((w24.setCell ⟨gb230, 0, none⟩ (.int .i64 t228)).setCell ⟨gb230, 1, none⟩ (.int .u64 t229)).heap[gb225]? = some (.cells #[.int .i64 t223, .int .u64 t224] 107 (0, 0))) := ⟨zb BK225⟩
  have n3_ : Aside0 (((w24.setCell ⟨gb230, 0, none⟩ (.int .i64 t228)).setCell ⟨gb230, 1, none⟩ (.int .u64 t229)).heap[gb230]? = some (.cells #[.int .i64 t228, .int .u64 t229] 107 (0, 0))) := ⟨by refine zM ?_; refine blk_put (cs := #[.int .i64 t228, .int .u64 0]) ?_ 1 _ rfl; refine zM ?_; refine blk_put (cs := #[.int .i64 0, .int .u64 0]) ?_ 0 _ rfl; refine zM ?_; exact BK230.out⟩
  have n4_ : Aside0 (Below w.heap.size w ((w24.setCell ⟨gb230, 0, none⟩ (.int .i64 t228)).setCell ⟨gb230, 1, none⟩ (.int .u64 t229))) := ⟨zo HB⟩
  (try clear BK221)
  (try clear BK222)
  (try clear BK225)
  (try clear BK230)
  (try clear HB)
  generalize ((w24.setCell ⟨gb230, 0, none⟩ (.int .i64 t228)).setCell ⟨gb230, 1, none⟩ (.int .u64 t229)) = w29 at n0_ n1_ n2_ n3_ n4_ ⊢
  have BK221 := n0_
  have BK222 := n1_
  have BK225 := n2_
  have BK230 := n3_
  have HB := n4_; clear n0_ n1_ n2_ n3_ n4_
  replace BK221 := zK (zD BK221.out)
  replace BK222 := zK (zD BK222.out)
  replace BK225 := zK (zD BK225.out)
  replace BK230 := zK (zD BK230.out)
  replace HB := zK (yD HB.out)
  refine start_ (n := 4) (S := fun w' => w'.cell? ⟨gb230, 0, none⟩ = some (.int .i64 t228) ∧ w'.cell? ⟨gb230, 1, none⟩ = some (.int .u64 t229)) (ds := [3]) #[F_,F_,F_,F_] (by kernel_rfl) rfl rfl ⟨(blk_cell BK230.out 0).trans rfl, (blk_cell BK230.out 1).trans rfl⟩ (fun hHeld => ?_)
  generalize w29.drew = w30 at BK221 BK222 BK225 BK230 HB hHeld ⊢
  refine take_ (i := 0) (N := some 28) (v := ?_) (a' := ?_) #[T_,F_,F_,F_] rfl rfl (by kernel_rfl) (fun _ _ _ h => h) (Or.inl ⟨by rfl, ?_⟩) hHeld ?_ ?_; rotate_left; (rintro w' ⟨s0, s1⟩; go_simp; with_reducible rfl); rotate_left; (simp only [Act.put, zt, zz, zs, i64_w, i32_w]; rfl)
  refine one_ (i := 1) (N := some 29) #[T_,T_,F_,F_] rfl rfl (by kernel_rfl) (by decide) (fun K hK => ?_)
  refine goes_ Try.func81 (by kernel_rfl) rfl #[.int .i64 1] (by rfl) rfl rfl (by (try simp only [List.map_toArray, List.map_cons, List.map_nil]); first | done | rfl | (simp only [List.length_drop, List.length_take]; rfl)) ?_
  with_reducible refine (sequiturref01_Of.calls 1 t231 t232 _ A8.out).mono ?_
  rintro e w31 ⟨rfl, hb⟩
  refine ⟨_, rfl, ?_⟩
  replace BK221 := zK (blk_below (g := gb221) (o := .cells #[.int .i64 a0_0, .int .u64 a0_1, .int .u64 a0_2] 151 (0, 0)) (zb BK221) hb)
  replace BK222 := zK (blk_below (g := gb222) (o := .cells #[.int .i64 0, .int .u64 0, .int .u64 0] 151 (0, 0)) (zb BK222) hb)
  replace BK225 := zK (blk_below (g := gb225) (o := .cells #[.int .i64 t223, .int .u64 t224] 107 (0, 0)) (zb BK225) hb)
  replace BK230 := zK (blk_below (g := gb230) (o := .cells #[.int .i64 t228, .int .u64 t229] 107 (0, 0)) (zb BK230) hb)
  replace HB := zK (below_step (zo HB) hb)
  (try clear hb); (try clear hb2); (try clear hk); (try clear hi)
  refine hK.out _ _ ⟨(blk_cell BK230.out 0).trans rfl, (blk_cell BK230.out 1).trans rfl⟩ (fun hHeld => ?_)
  clear hK K
  refine norm_ (a' := ?_) ?_ ?_; rotate_left; (show Act.put _ (some 29) _ = _; simp only [Act.put, zt, zz, zs, i64_w, i32_w]; rfl)
  refine one_ (i := 2) (N := some 30) #[T_,T_,T_,F_] rfl rfl (by kernel_rfl) (by decide) (fun K hK => ?_)
  refine goes_ Try.func79 (by kernel_rfl) rfl #[.agg #[.int .i64 t228, .int .u64 t229], .agg #[.int .i64 t231, .int .u64 t232]] (by rfl) rfl rfl (by (try simp only [List.map_toArray, List.map_cons, List.map_nil]); first | done | rfl | (simp only [List.length_drop, List.length_take]; rfl)) ?_
  with_reducible refine (sequiturref01_Plus.calls t228 t229 t231 t232 t233 t234 _ A9.out).mono ?_
  rintro e w32 ⟨rfl, hb⟩
  refine ⟨_, rfl, ?_⟩
  replace BK221 := zK (blk_below (g := gb221) (o := .cells #[.int .i64 a0_0, .int .u64 a0_1, .int .u64 a0_2] 151 (0, 0)) (zb BK221) hb)
  replace BK222 := zK (blk_below (g := gb222) (o := .cells #[.int .i64 0, .int .u64 0, .int .u64 0] 151 (0, 0)) (zb BK222) hb)
  replace BK225 := zK (blk_below (g := gb225) (o := .cells #[.int .i64 t223, .int .u64 t224] 107 (0, 0)) (zb BK225) hb)
  replace BK230 := zK (blk_below (g := gb230) (o := .cells #[.int .i64 t228, .int .u64 t229] 107 (0, 0)) (zb BK230) hb)
  replace HB := zK (below_step (zo HB) hb)
  (try clear hb); (try clear hb2); (try clear hk); (try clear hi)
  refine hK.out _ _ ⟨(blk_cell BK230.out 0).trans rfl, (blk_cell BK230.out 1).trans rfl⟩ (fun hHeld => ?_)
  clear hK K
  refine norm_ (a' := ?_) ?_ ?_; rotate_left; (show Act.put _ (some 30) _ = _; simp only [Act.put, zt, zz, zs, i64_w, i32_w]; rfl)
  refine last_ (i := 3) (N := none) #[T_,T_,T_,T_] rfl rfl (by kernel_rfl) (by decide) (fun K hK => ?_)
  have hs33 : w32.cell? ⟨gb230, 0, none⟩ = some (.int .i64 t228) := (blk_cell BK230.out 0).trans rfl
  have hfs33 := blk_frozen BK230.out 0
  have hns33_0 := NB221_230.out
  have hns33_1 := NB222_230.out
  have hns33_2 := NB225_230.out
  have hms33_0 := NB230_221.out
  have hms33_1 := NB230_222.out
  have hms33_2 := NB230_225.out
  have hs34 : w32.cell? ⟨gb230, 1, none⟩ = some (.int .u64 t229) := (blk_cell BK230.out 1).trans rfl
  have hfs34 := blk_frozen BK230.out 1
  have hns34_0 := NB221_230.out
  have hns34_1 := NB222_230.out
  have hns34_2 := NB225_230.out
  have hms34_0 := NB230_221.out
  have hms34_1 := NB230_222.out
  have hms34_2 := NB230_225.out
  refine skip_ (w1 := ?_) (by rfl) rfl ?_ ?_
  rotate_left
  ·go_simp
   rfl
  refine hK.out _ _ ?_
  clear hK K
  refine done_ (by kernel_rfl) ?_
  have hnb35 := NB230_222.out
  have hnc35 := NB222_230.out
  have hnb36 := NB230_225.out
  have hnc36 := NB225_230.out
  have hcz37_0 : w32.cell? ⟨gb230, 0, none⟩ = some (.int .i64 t228) := (blk_cell BK230.out 0).trans rfl
  have hcz37_1 : w32.cell? ⟨gb230, 1, none⟩ = some (.int .u64 t229) := (blk_cell BK230.out 1).trans rfl
  have hfz37_0 := blk_frozen BK230.out 0
  have hfz37_1 := blk_frozen BK230.out 1
  have hcz38_0 : w32.cell? ⟨gb222, 0, none⟩ = some (.int .i64 0) := (blk_cell BK222.out 0).trans rfl
  have hcz38_1 : w32.cell? ⟨gb222, 1, none⟩ = some (.int .u64 0) := (blk_cell BK222.out 1).trans rfl
  have hcz38_2 : w32.cell? ⟨gb222, 2, none⟩ = some (.int .u64 0) := (blk_cell BK222.out 2).trans rfl
  have hfz38_0 := blk_frozen BK222.out 0
  have hfz38_1 := blk_frozen BK222.out 1
  have hfz38_2 := blk_frozen BK222.out 2
  try go_wp2
  refine bodyPost_ret (results_cell_row rfl _ _ gb222 151 #[.int .i64 t233, .int .u64 t234, .int .u64 (IntKind.u64.wrap (a0_2 + t224))] (0, 0) _ rfl (by refine zM ?_; refine blk_put (cs := #[.int .i64 t233, .int .u64 t234, .int .u64 0]) ?_ 2 _ rfl; refine zM ?_; refine blk_put (cs := #[.int .i64 t233, .int .u64 0, .int .u64 0]) ?_ 1 _ rfl; refine zM ?_; refine blk_put (cs := #[.int .i64 0, .int .u64 0, .int .u64 0]) ?_ 0 _ rfl; refine zM ?_; refine blk_far ?_ NB222_230.out _; refine zM ?_; refine blk_far ?_ NB222_230.out _; refine zM ?_; exact BK222.out) Try.underlying151 rfl (by kernel_rfl)) rfl ?_
  exact ⟨by first | rfl | (simp [errW_none, errW_some] <;> rfl) | (simp [*, errW_none, errW_some] <;> rfl), zo HB⟩
 ·rw [if_neg c7] at H
  have c7b0 : decide ((IntKind.u64.wrap (a0_2 + t224)) < a0_2) = false := decide_eq_false c7
  clear c7
  simp only [Option.some.injEq, Prod.mk.injEq] at H
  obtain ⟨rfl, rfl, rfl⟩ := H
  go_enter Try.func115, Try.ntmps115
  try go_wp2_with (first | ((with_reducible refine gate_dst (N := 3) rfl ?_); refine box_event ?hg (N := 3) ?hd (cs := #[.int .i64 a0_0, .int .u64 a0_1, .int .u64 a0_2]) (t := 151) ?hr ?_; (case hd => rfl); (case hg => rfl); (case hr => first | (go_simp; done) | (go_simp; rfl)); intro gb221 hg w39 hbox hb; have BK221 := zK (hbox); have GW221 := zK ((by rw [hg]; exact (below_size (zo HB)) : w.heap.size ≤ gb221)); have GE221 := zK ((by rw [hg]; exact (below_size (zo HB)) : w.heap.size ≤ gb221)); replace HB := zK (below_step (zo HB) hb); clear hb hbox hg) | ((with_reducible refine gate_dst (N := 6) rfl ?_); refine box_event ?hg (N := 6) ?hd (cs := #[.int .i64 0, .int .u64 0, .int .u64 0]) (t := 151) ?hr ?_; (case hd => rfl); (case hg => rfl); (case hr => first | (go_simp; done) | (go_simp; rfl)); intro gb222 hg w40 hbox hb; have BK222 := zK (hbox); have GW222 := zK ((by rw [hg]; exact (below_size (zo HB)) : w.heap.size ≤ gb222)); have GE222 := zK ((by rw [hg]; exact (below_size (zo HB)) : w.heap.size ≤ gb222)); replace HB := zK (below_step (zo HB) hb); have NB221_222 := zK ((by rw [hg]; exact Nat.ne_of_lt (blk_lt (g := gb221) (o := .cells #[.int .i64 a0_0, .int .u64 a0_1, .int .u64 a0_2] 151 (0, 0)) (zb BK221)) : gb221 ≠ gb222)); have NB222_221 := zK ((by rw [hg]; exact Nat.ne_of_gt (blk_lt (g := gb221) (o := .cells #[.int .i64 a0_0, .int .u64 a0_1, .int .u64 a0_2] 151 (0, 0)) (zb BK221)) : gb222 ≠ gb221)); replace BK221 := zK (blk_below (g := gb221) (o := .cells #[.int .i64 a0_0, .int .u64 a0_1, .int .u64 a0_2] 151 (0, 0)) (zb BK221) hb); clear hb hbox hg) | ((with_reducible refine zC (f := 78) rfl ?_); refine goesL_ (some 12) rfl rfl Try.func78 (by kernel_rfl) rfl #[.int .i64 a1, .int .i64 a2] rfl (by (try simp only [List.map_toArray, List.map_cons, List.map_nil]); first | done | rfl | (simp only [List.length_drop, List.length_take]; rfl)) ?_; (with_reducible refine (sequiturref01_Times.calls k a1 a2 t223 t224 _ A4.out).mono ?_); rintro e w41 ⟨rfl, hb⟩; refine ⟨_, rfl, ?_⟩; replace BK221 := zK (blk_below (g := gb221) (o := .cells #[.int .i64 a0_0, .int .u64 a0_1, .int .u64 a0_2] 151 (0, 0)) (zb BK221) hb); replace BK222 := zK (blk_below (g := gb222) (o := .cells #[.int .i64 0, .int .u64 0, .int .u64 0] 151 (0, 0)) (zb BK222) hb); replace HB := zK (below_step (zo HB) hb); (try clear hb); (try clear hb2); (try clear hk); (try clear hi)) | ((with_reducible refine gate_dst (N := 7) rfl ?_); refine box_event ?hg (N := 7) ?hd (cs := #[.int .i64 0, .int .u64 0]) (t := 107) ?hr ?_; (case hd => rfl); (case hg => rfl); (case hr => first | (go_simp; done) | (go_simp; rfl)); intro gb225 hg w42 hbox hb; have BK225 := zK (hbox); have GW225 := zK ((by rw [hg]; exact (below_size (zo HB)) : w.heap.size ≤ gb225)); have GE225 := zK ((by rw [hg]; exact (below_size (zo HB)) : w.heap.size ≤ gb225)); replace HB := zK (below_step (zo HB) hb); have NB221_225 := zK ((by rw [hg]; exact Nat.ne_of_lt (blk_lt (g := gb221) (o := .cells #[.int .i64 a0_0, .int .u64 a0_1, .int .u64 a0_2] 151 (0, 0)) (zb BK221)) : gb221 ≠ gb225)); have NB225_221 := zK ((by rw [hg]; exact Nat.ne_of_gt (blk_lt (g := gb221) (o := .cells #[.int .i64 a0_0, .int .u64 a0_1, .int .u64 a0_2] 151 (0, 0)) (zb BK221)) : gb225 ≠ gb221)); replace BK221 := zK (blk_below (g := gb221) (o := .cells #[.int .i64 a0_0, .int .u64 a0_1, .int .u64 a0_2] 151 (0, 0)) (zb BK221) hb); have NB222_225 := zK ((by rw [hg]; exact Nat.ne_of_lt (blk_lt (g := gb222) (o := .cells #[.int .i64 0, .int .u64 0, .int .u64 0] 151 (0, 0)) (zb BK222)) : gb222 ≠ gb225)); have NB225_222 := zK ((by rw [hg]; exact Nat.ne_of_gt (blk_lt (g := gb222) (o := .cells #[.int .i64 0, .int .u64 0, .int .u64 0] 151 (0, 0)) (zb BK222)) : gb225 ≠ gb222)); replace BK222 := zK (blk_below (g := gb222) (o := .cells #[.int .i64 0, .int .u64 0, .int .u64 0] 151 (0, 0)) (zb BK222) hb); clear hb hbox hg; have hnb43 := NB225_221.out; have hnc43 := NB221_225.out; have hnb44 := NB225_222.out; have hnc44 := NB222_225.out; have hcz45_0 : w42.cell? ⟨gb225, 0, none⟩ = some (.int .i64 0) := (blk_cell BK225.out 0).trans rfl; have hcz45_1 : w42.cell? ⟨gb225, 1, none⟩ = some (.int .u64 0) := (blk_cell BK225.out 1).trans rfl; have hfz45_0 := blk_frozen BK225.out 0; have hfz45_1 := blk_frozen BK225.out 1; have hnb46 := NB221_222.out; have hnc46 := NB222_221.out; have hcz47_0 : w42.cell? ⟨gb221, 0, none⟩ = some (.int .i64 a0_0) := (blk_cell BK221.out 0).trans rfl; have hcz47_1 : w42.cell? ⟨gb221, 1, none⟩ = some (.int .u64 a0_1) := (blk_cell BK221.out 1).trans rfl; have hcz47_2 : w42.cell? ⟨gb221, 2, none⟩ = some (.int .u64 a0_2) := (blk_cell BK221.out 2).trans rfl; have hfz47_0 := blk_frozen BK221.out 0; have hfz47_1 := blk_frozen BK221.out 1; have hfz47_2 := blk_frozen BK221.out 2))
  have n0_ : Aside0 (((w42.setCell ⟨gb225, 0, none⟩ (.int .i64 t223)).setCell ⟨gb225, 1, none⟩ (.int .u64 t224)).heap[gb221]? = some (.cells #[.int .i64 a0_0, .int .u64 a0_1, .int .u64 a0_2] 151 (0, 0))) := ⟨zb BK221⟩
  have n1_ : Aside0 (((w42.setCell ⟨gb225, 0, none⟩ (.int .i64 t223)).setCell ⟨gb225, 1, none⟩ (.int .u64 t224)).heap[gb222]? = some (.cells #[.int .i64 0, .int .u64 0, .int .u64 0] 151 (0, 0))) := ⟨zb BK222⟩
  have n2_ : Aside0 (((w42.setCell ⟨gb225, 0, none⟩ (.int .i64 t223)).setCell ⟨gb225, 1, none⟩ (.int .u64 t224)).heap[gb225]? = some (.cells #[.int .i64 t223, .int .u64 t224] 107 (0, 0))) := ⟨by refine zM ?_; refine blk_put (cs := #[.int .i64 t223, .int .u64 0]) ?_ 1 _ rfl; refine zM ?_; refine blk_put (cs := #[.int .i64 0, .int .u64 0]) ?_ 0 _ rfl; refine zM ?_; exact BK225.out⟩
  have n3_ : Aside0 (Below w.heap.size w ((w42.setCell ⟨gb225, 0, none⟩ (.int .i64 t223)).setCell ⟨gb225, 1, none⟩ (.int .u64 t224))) := ⟨zo HB⟩
  (try clear BK221)
  (try clear BK222)
  (try clear BK225)
  (try clear HB)
  generalize ((w42.setCell ⟨gb225, 0, none⟩ (.int .i64 t223)).setCell ⟨gb225, 1, none⟩ (.int .u64 t224)) = w48 at n0_ n1_ n2_ n3_ ⊢
  have BK221 := n0_
  have BK222 := n1_
  have BK225 := n2_
  have HB := n3_; clear n0_ n1_ n2_ n3_
  replace BK221 := zK (zD BK221.out)
  replace BK222 := zK (zD BK222.out)
  replace BK225 := zK (zD BK225.out)
  replace HB := zK (yD HB.out)
  refine start_ (n := 8) (S := fun w' => w'.cell? ⟨gb221, 0, none⟩ = some (.int .i64 a0_0) ∧ w'.cell? ⟨gb221, 1, none⟩ = some (.int .u64 a0_1) ∧ w'.cell? ⟨gb221, 2, none⟩ = some (.int .u64 a0_2) ∧ w'.cell? ⟨gb225, 0, none⟩ = some (.int .i64 t223) ∧ w'.cell? ⟨gb225, 1, none⟩ = some (.int .u64 t224)) (ds := []) #[F_,F_,F_,F_,F_,F_,F_,F_] (by kernel_rfl) rfl rfl ⟨(blk_cell BK221.out 0).trans rfl, (blk_cell BK221.out 1).trans rfl, (blk_cell BK221.out 2).trans rfl, (blk_cell BK225.out 0).trans rfl, (blk_cell BK225.out 1).trans rfl⟩ (fun hHeld => ?_); refine with_tabW sequiturref28_More.tab3 sequiturref28_More.bits3 (fun HT_ HW_ => ?_)
  generalize w48.drew = w49 at BK221 BK222 BK225 HB hHeld ⊢
  refine pure_ (i := 0) (N := some 18) (v := ?_) (a' := ?_) #[T_,F_,F_,F_,F_,F_,F_,F_] rfl rfl (any_of HT_.out (by kernel_rfl)) (fun _ _ _ h => h) (Or.inl ⟨by rfl, ?_⟩) ?_ ?_; rotate_left; (intro w'; go_simp; with_reducible rfl); rotate_left; (simp only [Act.put, zt, zz, zs, i64_w, i32_w]; rfl)
  refine pure_ (i := 2) (N := some 20) (v := ?_) (a' := ?_) #[T_,F_,T_,F_,F_,F_,F_,F_] rfl rfl (any_of HT_.out (by kernel_rfl)) (fun _ _ _ h => h) (Or.inl ⟨by rfl, ?_⟩) ?_ ?_; rotate_left; (intro w'; go_simp; with_reducible rfl); rotate_left; (simp only [Act.put, zt, zz, zs, i64_w, i32_w]; rfl)
  refine take_ (i := 1) (N := some 19) (v := ?_) (a' := ?_) #[T_,T_,T_,F_,F_,F_,F_,F_] rfl rfl (take_ofW HT_.out HW_.out (by kernel_rfl)) (fun _ _ _ h => h) (Or.inl ⟨by rfl, ?_⟩) hHeld ?_ ?_; rotate_left; (rintro w' ⟨s0, s1, s2, s3, s4⟩; go_simp; with_reducible rfl); rotate_left; (simp only [Act.put, zt, zz, zs, i64_w, i32_w]; rfl)
  refine take_ (i := 3) (N := some 21) (v := ?_) (a' := ?_) #[T_,T_,T_,T_,F_,F_,F_,F_] rfl rfl (take_ofW HT_.out HW_.out (by kernel_rfl)) (fun _ _ _ h => h) (Or.inl ⟨by rfl, ?_⟩) hHeld ?_ ?_; rotate_left; (rintro w' ⟨s0, s1, s2, s3, s4⟩; go_simp; with_reducible rfl); rotate_left; (simp only [Act.put, zt, zz, zs, i64_w, i32_w]; rfl)
  refine join_ (σ := Nat) 1 #[T_,T_,T_,T_,T_,T_,T_,F_] (fun s_ => [(22, .agg #[.int .i64 t226, .int .u64 t227]), (23, .agg #[.int .i64 t228, .int .u64 t229]), (9, .pointer (some ⟨s_, 0, none⟩))]) (fun s_ w' => (w'.cell? ⟨gb221, 0, none⟩ = some (.int .i64 a0_0) ∧ w'.cell? ⟨gb221, 1, none⟩ = some (.int .u64 a0_1) ∧ w'.cell? ⟨gb221, 2, none⟩ = some (.int .u64 a0_2) ∧ w'.cell? ⟨gb225, 0, none⟩ = some (.int .i64 t223) ∧ w'.cell? ⟨gb225, 1, none⟩ = some (.int .u64 t224)) ∧ (w'.heap[gb221]? = some (.cells #[.int .i64 a0_0, .int .u64 a0_1, .int .u64 a0_2] 151 (0, 0))) ∧ (w'.heap[gb222]? = some (.cells #[.int .i64 0, .int .u64 0, .int .u64 0] 151 (0, 0))) ∧ (w'.heap[gb225]? = some (.cells #[.int .i64 t223, .int .u64 t224] 107 (0, 0))) ∧ (w'.heap[s_]? = some (.cells #[.int .i64 0, .int .u64 0] 107 (0, 0))) ∧ (w.heap.size ≤ s_) ∧ (w.heap.size ≤ s_) ∧ (gb221 ≠ s_) ∧ (s_ ≠ gb221) ∧ (gb222 ≠ s_) ∧ (s_ ≠ gb222) ∧ (gb225 ≠ s_) ∧ (s_ ≠ gb225) ∧ (Below w.heap.size w w')) ?_ ?_
  rotate_left
  ·intro hCont
   refine two_ (i := 4) (j := 6) (Ni := some 22) (Nj := some 9) #[T_,T_,T_,T_,T_,F_,F_,F_] #[T_,T_,T_,T_,F_,F_,T_,F_] rfl rfl rfl rfl (two_of HT_.out (by kernel_rfl)) (by decide) (by decide) (fun K hK => ?_) (fun K hK => ?_)
   ·skip
    refine goes_ Try.func81 (by kernel_rfl) rfl #[.int .i64 t223] (by rfl) rfl rfl (by (try simp only [List.map_toArray, List.map_cons, List.map_nil]); first | done | rfl | (simp only [List.length_drop, List.length_take]; rfl)) ?_
    with_reducible refine (sequiturref01_Of.calls t223 t226 t227 _ A5.out).mono ?_
    rintro e w50 ⟨rfl, hb⟩
    refine ⟨_, rfl, ?_⟩
    replace BK221 := zK (blk_below (g := gb221) (o := .cells #[.int .i64 a0_0, .int .u64 a0_1, .int .u64 a0_2] 151 (0, 0)) (zb BK221) hb)
    replace BK222 := zK (blk_below (g := gb222) (o := .cells #[.int .i64 0, .int .u64 0, .int .u64 0] 151 (0, 0)) (zb BK222) hb)
    replace BK225 := zK (blk_below (g := gb225) (o := .cells #[.int .i64 t223, .int .u64 t224] 107 (0, 0)) (zb BK225) hb)
    replace HB := zK (below_step (zo HB) hb)
    (try clear hb); (try clear hb2); (try clear hk); (try clear hi)
    refine hK.out _ _ ⟨(blk_cell BK221.out 0).trans rfl, (blk_cell BK221.out 1).trans rfl, (blk_cell BK221.out 2).trans rfl, (blk_cell BK225.out 0).trans rfl, (blk_cell BK225.out 1).trans rfl⟩ (fun hHeld => ?_)
    clear hK K
    refine norm_ (a' := ?_) ?_ ?_; rotate_left; (show Act.put _ (some 22) _ = _; simp only [Act.put, zt, zz, zs, i64_w, i32_w]; rfl)
    refine two_ (i := 5) (j := 6) (Ni := some 23) (Nj := some 9) #[T_,T_,T_,T_,T_,T_,F_,F_] #[T_,T_,T_,T_,T_,F_,T_,F_] rfl rfl rfl rfl (two_of HT_.out (by kernel_rfl)) (by decide) (by decide) (fun K hK => ?_) (fun K hK => ?_)
    ·skip
     refine goes_ Try.func79 (by kernel_rfl) rfl #[.agg #[.int .i64 a0_0, .int .u64 a0_1], .agg #[.int .i64 t226, .int .u64 t227]] (by rfl) rfl rfl (by (try simp only [List.map_toArray, List.map_cons, List.map_nil]); first | done | rfl | (simp only [List.length_drop, List.length_take]; rfl)) ?_
     with_reducible refine (sequiturref01_Plus.calls a0_0 a0_1 t226 t227 t228 t229 _ A6.out).mono ?_
     rintro e w51 ⟨rfl, hb⟩
     refine ⟨_, rfl, ?_⟩
     replace BK221 := zK (blk_below (g := gb221) (o := .cells #[.int .i64 a0_0, .int .u64 a0_1, .int .u64 a0_2] 151 (0, 0)) (zb BK221) hb)
     replace BK222 := zK (blk_below (g := gb222) (o := .cells #[.int .i64 0, .int .u64 0, .int .u64 0] 151 (0, 0)) (zb BK222) hb)
     replace BK225 := zK (blk_below (g := gb225) (o := .cells #[.int .i64 t223, .int .u64 t224] 107 (0, 0)) (zb BK225) hb)
     replace HB := zK (below_step (zo HB) hb)
     (try clear hb); (try clear hb2); (try clear hk); (try clear hi)
     refine hK.out _ _ ⟨(blk_cell BK221.out 0).trans rfl, (blk_cell BK221.out 1).trans rfl, (blk_cell BK221.out 2).trans rfl, (blk_cell BK225.out 0).trans rfl, (blk_cell BK225.out 1).trans rfl⟩ (fun hHeld => ?_)
     clear hK K
     refine norm_ (a' := ?_) ?_ ?_; rotate_left; (show Act.put _ (some 23) _ = _; simp only [Act.put, zt, zz, zs, i64_w, i32_w]; rfl)
     refine one_ (i := 6) (N := some 9) #[T_,T_,T_,T_,T_,T_,T_,F_] rfl rfl (one_of HT_.out (by kernel_rfl)) (by decide) (fun K hK => ?_)
     refine box_step ?hg (N := 9) ?hd (cs := #[.int .i64 0, .int .u64 0]) (t := 107) ?hr ?_; (case hd => rfl); (case hg => rfl); (case hr => first | (go_simp; done) | (go_simp; rfl))
     intro gb230 hg w52 hbox hb
     have BK230 := zK (hbox)
     have GW230 := zK ((by rw [hg]; exact (below_size (zo HB)) : w.heap.size ≤ gb230))
     have GE230 := zK ((by rw [hg]; exact (below_size (zo HB)) : w.heap.size ≤ gb230))
     replace HB := zK (below_step (zo HB) hb)
     have NB221_230 := zK ((by rw [hg]; exact Nat.ne_of_lt (blk_lt (g := gb221) (o := .cells #[.int .i64 a0_0, .int .u64 a0_1, .int .u64 a0_2] 151 (0, 0)) (zb BK221)) : gb221 ≠ gb230))
     have NB230_221 := zK ((by rw [hg]; exact Nat.ne_of_gt (blk_lt (g := gb221) (o := .cells #[.int .i64 a0_0, .int .u64 a0_1, .int .u64 a0_2] 151 (0, 0)) (zb BK221)) : gb230 ≠ gb221))
     replace BK221 := zK (blk_below (g := gb221) (o := .cells #[.int .i64 a0_0, .int .u64 a0_1, .int .u64 a0_2] 151 (0, 0)) (zb BK221) hb)
     have NB222_230 := zK ((by rw [hg]; exact Nat.ne_of_lt (blk_lt (g := gb222) (o := .cells #[.int .i64 0, .int .u64 0, .int .u64 0] 151 (0, 0)) (zb BK222)) : gb222 ≠ gb230))
     have NB230_222 := zK ((by rw [hg]; exact Nat.ne_of_gt (blk_lt (g := gb222) (o := .cells #[.int .i64 0, .int .u64 0, .int .u64 0] 151 (0, 0)) (zb BK222)) : gb230 ≠ gb222))
     replace BK222 := zK (blk_below (g := gb222) (o := .cells #[.int .i64 0, .int .u64 0, .int .u64 0] 151 (0, 0)) (zb BK222) hb)
     have NB225_230 := zK ((by rw [hg]; exact Nat.ne_of_lt (blk_lt (g := gb225) (o := .cells #[.int .i64 t223, .int .u64 t224] 107 (0, 0)) (zb BK225)) : gb225 ≠ gb230))
     have NB230_225 := zK ((by rw [hg]; exact Nat.ne_of_gt (blk_lt (g := gb225) (o := .cells #[.int .i64 t223, .int .u64 t224] 107 (0, 0)) (zb BK225)) : gb230 ≠ gb225))
     replace BK225 := zK (blk_below (g := gb225) (o := .cells #[.int .i64 t223, .int .u64 t224] 107 (0, 0)) (zb BK225) hb)
     clear hb hbox hg
     refine hK.out _ _ ⟨(blk_cell BK221.out 0).trans rfl, (blk_cell BK221.out 1).trans rfl, (blk_cell BK221.out 2).trans rfl, (blk_cell BK225.out 0).trans rfl, (blk_cell BK225.out 1).trans rfl⟩ (fun hHeld => ?_)
     clear hK K
     refine norm_ (a' := ?_) ?_ ?_; rotate_left; (show Act.put _ (some 9) _ = _; simp only [Act.put, zt, zz, zs, i64_w, i32_w]; rfl)
     exact norm_ (by simp only [putAll, Act.put, zt, zz, zs]) (hCont (gb230) _ ⟨hHeld, (zb BK221), (zb BK222), (zb BK225), (zb BK230), GW230.out, GE230.out, NB221_230.out, NB230_221.out, NB222_230.out, NB230_222.out, NB225_230.out, NB230_225.out, (zo HB)⟩)
    ·skip
     refine box_step ?hg (N := 9) ?hd (cs := #[.int .i64 0, .int .u64 0]) (t := 107) ?hr ?_; (case hd => rfl); (case hg => rfl); (case hr => first | (go_simp; done) | (go_simp; rfl))
     intro gb230 hg w51 hbox hb
     have BK230 := zK (hbox)
     have GW230 := zK ((by rw [hg]; exact (below_size (zo HB)) : w.heap.size ≤ gb230))
     have GE230 := zK ((by rw [hg]; exact (below_size (zo HB)) : w.heap.size ≤ gb230))
     replace HB := zK (below_step (zo HB) hb)
     have NB221_230 := zK ((by rw [hg]; exact Nat.ne_of_lt (blk_lt (g := gb221) (o := .cells #[.int .i64 a0_0, .int .u64 a0_1, .int .u64 a0_2] 151 (0, 0)) (zb BK221)) : gb221 ≠ gb230))
     have NB230_221 := zK ((by rw [hg]; exact Nat.ne_of_gt (blk_lt (g := gb221) (o := .cells #[.int .i64 a0_0, .int .u64 a0_1, .int .u64 a0_2] 151 (0, 0)) (zb BK221)) : gb230 ≠ gb221))
     replace BK221 := zK (blk_below (g := gb221) (o := .cells #[.int .i64 a0_0, .int .u64 a0_1, .int .u64 a0_2] 151 (0, 0)) (zb BK221) hb)
     have NB222_230 := zK ((by rw [hg]; exact Nat.ne_of_lt (blk_lt (g := gb222) (o := .cells #[.int .i64 0, .int .u64 0, .int .u64 0] 151 (0, 0)) (zb BK222)) : gb222 ≠ gb230))
     have NB230_222 := zK ((by rw [hg]; exact Nat.ne_of_gt (blk_lt (g := gb222) (o := .cells #[.int .i64 0, .int .u64 0, .int .u64 0] 151 (0, 0)) (zb BK222)) : gb230 ≠ gb222))
     replace BK222 := zK (blk_below (g := gb222) (o := .cells #[.int .i64 0, .int .u64 0, .int .u64 0] 151 (0, 0)) (zb BK222) hb)
     have NB225_230 := zK ((by rw [hg]; exact Nat.ne_of_lt (blk_lt (g := gb225) (o := .cells #[.int .i64 t223, .int .u64 t224] 107 (0, 0)) (zb BK225)) : gb225 ≠ gb230))
     have NB230_225 := zK ((by rw [hg]; exact Nat.ne_of_gt (blk_lt (g := gb225) (o := .cells #[.int .i64 t223, .int .u64 t224] 107 (0, 0)) (zb BK225)) : gb230 ≠ gb225))
     replace BK225 := zK (blk_below (g := gb225) (o := .cells #[.int .i64 t223, .int .u64 t224] 107 (0, 0)) (zb BK225) hb)
     clear hb hbox hg
     refine hK.out _ _ ⟨(blk_cell BK221.out 0).trans rfl, (blk_cell BK221.out 1).trans rfl, (blk_cell BK221.out 2).trans rfl, (blk_cell BK225.out 0).trans rfl, (blk_cell BK225.out 1).trans rfl⟩ (fun hHeld => ?_)
     clear hK K
     refine norm_ (a' := ?_) ?_ ?_; rotate_left; (show Act.put _ (some 9) _ = _; simp only [Act.put, zt, zz, zs, i64_w, i32_w]; rfl)
     refine one_ (i := 5) (N := some 23) #[T_,T_,T_,T_,T_,T_,T_,F_] rfl rfl (one_of HT_.out (by kernel_rfl)) (by decide) (fun K hK => ?_)
     refine goes_ Try.func79 (by kernel_rfl) rfl #[.agg #[.int .i64 a0_0, .int .u64 a0_1], .agg #[.int .i64 t226, .int .u64 t227]] (by rfl) rfl rfl (by (try simp only [List.map_toArray, List.map_cons, List.map_nil]); first | done | rfl | (simp only [List.length_drop, List.length_take]; rfl)) ?_
     with_reducible refine (sequiturref01_Plus.calls a0_0 a0_1 t226 t227 t228 t229 _ A6.out).mono ?_
     rintro e w52 ⟨rfl, hb⟩
     refine ⟨_, rfl, ?_⟩
     replace BK221 := zK (blk_below (g := gb221) (o := .cells #[.int .i64 a0_0, .int .u64 a0_1, .int .u64 a0_2] 151 (0, 0)) (zb BK221) hb)
     replace BK222 := zK (blk_below (g := gb222) (o := .cells #[.int .i64 0, .int .u64 0, .int .u64 0] 151 (0, 0)) (zb BK222) hb)
     replace BK225 := zK (blk_below (g := gb225) (o := .cells #[.int .i64 t223, .int .u64 t224] 107 (0, 0)) (zb BK225) hb)
     replace BK230 := zK (blk_below (g := gb230) (o := .cells #[.int .i64 0, .int .u64 0] 107 (0, 0)) (zb BK230) hb)
     replace HB := zK (below_step (zo HB) hb)
     (try clear hb); (try clear hb2); (try clear hk); (try clear hi)
     refine hK.out _ _ ⟨(blk_cell BK221.out 0).trans rfl, (blk_cell BK221.out 1).trans rfl, (blk_cell BK221.out 2).trans rfl, (blk_cell BK225.out 0).trans rfl, (blk_cell BK225.out 1).trans rfl⟩ (fun hHeld => ?_)
     clear hK K
     refine norm_ (a' := ?_) ?_ ?_; rotate_left; (show Act.put _ (some 23) _ = _; simp only [Act.put, zt, zz, zs, i64_w, i32_w]; rfl)
     exact norm_ (by simp only [putAll, Act.put, zt, zz, zs]) (hCont (gb230) _ ⟨hHeld, (zb BK221), (zb BK222), (zb BK225), (zb BK230), GW230.out, GE230.out, NB221_230.out, NB230_221.out, NB222_230.out, NB230_222.out, NB225_230.out, NB230_225.out, (zo HB)⟩)
   ·skip
    refine box_step ?hg (N := 9) ?hd (cs := #[.int .i64 0, .int .u64 0]) (t := 107) ?hr ?_; (case hd => rfl); (case hg => rfl); (case hr => first | (go_simp; done) | (go_simp; rfl))
    intro gb230 hg w50 hbox hb
    have BK230 := zK (hbox)
    have GW230 := zK ((by rw [hg]; exact (below_size (zo HB)) : w.heap.size ≤ gb230))
    have GE230 := zK ((by rw [hg]; exact (below_size (zo HB)) : w.heap.size ≤ gb230))
    replace HB := zK (below_step (zo HB) hb)
    have NB221_230 := zK ((by rw [hg]; exact Nat.ne_of_lt (blk_lt (g := gb221) (o := .cells #[.int .i64 a0_0, .int .u64 a0_1, .int .u64 a0_2] 151 (0, 0)) (zb BK221)) : gb221 ≠ gb230))
    have NB230_221 := zK ((by rw [hg]; exact Nat.ne_of_gt (blk_lt (g := gb221) (o := .cells #[.int .i64 a0_0, .int .u64 a0_1, .int .u64 a0_2] 151 (0, 0)) (zb BK221)) : gb230 ≠ gb221))
    replace BK221 := zK (blk_below (g := gb221) (o := .cells #[.int .i64 a0_0, .int .u64 a0_1, .int .u64 a0_2] 151 (0, 0)) (zb BK221) hb)
    have NB222_230 := zK ((by rw [hg]; exact Nat.ne_of_lt (blk_lt (g := gb222) (o := .cells #[.int .i64 0, .int .u64 0, .int .u64 0] 151 (0, 0)) (zb BK222)) : gb222 ≠ gb230))
    have NB230_222 := zK ((by rw [hg]; exact Nat.ne_of_gt (blk_lt (g := gb222) (o := .cells #[.int .i64 0, .int .u64 0, .int .u64 0] 151 (0, 0)) (zb BK222)) : gb230 ≠ gb222))
    replace BK222 := zK (blk_below (g := gb222) (o := .cells #[.int .i64 0, .int .u64 0, .int .u64 0] 151 (0, 0)) (zb BK222) hb)
    have NB225_230 := zK ((by rw [hg]; exact Nat.ne_of_lt (blk_lt (g := gb225) (o := .cells #[.int .i64 t223, .int .u64 t224] 107 (0, 0)) (zb BK225)) : gb225 ≠ gb230))
    have NB230_225 := zK ((by rw [hg]; exact Nat.ne_of_gt (blk_lt (g := gb225) (o := .cells #[.int .i64 t223, .int .u64 t224] 107 (0, 0)) (zb BK225)) : gb230 ≠ gb225))
    replace BK225 := zK (blk_below (g := gb225) (o := .cells #[.int .i64 t223, .int .u64 t224] 107 (0, 0)) (zb BK225) hb)
    clear hb hbox hg
    refine hK.out _ _ ⟨(blk_cell BK221.out 0).trans rfl, (blk_cell BK221.out 1).trans rfl, (blk_cell BK221.out 2).trans rfl, (blk_cell BK225.out 0).trans rfl, (blk_cell BK225.out 1).trans rfl⟩ (fun hHeld => ?_)
    clear hK K
    refine norm_ (a' := ?_) ?_ ?_; rotate_left; (show Act.put _ (some 9) _ = _; simp only [Act.put, zt, zz, zs, i64_w, i32_w]; rfl)
    refine one_ (i := 4) (N := some 22) #[T_,T_,T_,T_,T_,F_,T_,F_] rfl rfl (one_of HT_.out (by kernel_rfl)) (by decide) (fun K hK => ?_)
    refine goes_ Try.func81 (by kernel_rfl) rfl #[.int .i64 t223] (by rfl) rfl rfl (by (try simp only [List.map_toArray, List.map_cons, List.map_nil]); first | done | rfl | (simp only [List.length_drop, List.length_take]; rfl)) ?_
    with_reducible refine (sequiturref01_Of.calls t223 t226 t227 _ A5.out).mono ?_
    rintro e w51 ⟨rfl, hb⟩
    refine ⟨_, rfl, ?_⟩
    replace BK221 := zK (blk_below (g := gb221) (o := .cells #[.int .i64 a0_0, .int .u64 a0_1, .int .u64 a0_2] 151 (0, 0)) (zb BK221) hb)
    replace BK222 := zK (blk_below (g := gb222) (o := .cells #[.int .i64 0, .int .u64 0, .int .u64 0] 151 (0, 0)) (zb BK222) hb)
    replace BK225 := zK (blk_below (g := gb225) (o := .cells #[.int .i64 t223, .int .u64 t224] 107 (0, 0)) (zb BK225) hb)
    replace BK230 := zK (blk_below (g := gb230) (o := .cells #[.int .i64 0, .int .u64 0] 107 (0, 0)) (zb BK230) hb)
    replace HB := zK (below_step (zo HB) hb)
    (try clear hb); (try clear hb2); (try clear hk); (try clear hi)
    refine hK.out _ _ ⟨(blk_cell BK221.out 0).trans rfl, (blk_cell BK221.out 1).trans rfl, (blk_cell BK221.out 2).trans rfl, (blk_cell BK225.out 0).trans rfl, (blk_cell BK225.out 1).trans rfl⟩ (fun hHeld => ?_)
    clear hK K
    refine norm_ (a' := ?_) ?_ ?_; rotate_left; (show Act.put _ (some 22) _ = _; simp only [Act.put, zt, zz, zs, i64_w, i32_w]; rfl)
    refine one_ (i := 5) (N := some 23) #[T_,T_,T_,T_,T_,T_,T_,F_] rfl rfl (one_of HT_.out (by kernel_rfl)) (by decide) (fun K hK => ?_)
    refine goes_ Try.func79 (by kernel_rfl) rfl #[.agg #[.int .i64 a0_0, .int .u64 a0_1], .agg #[.int .i64 t226, .int .u64 t227]] (by rfl) rfl rfl (by (try simp only [List.map_toArray, List.map_cons, List.map_nil]); first | done | rfl | (simp only [List.length_drop, List.length_take]; rfl)) ?_
    with_reducible refine (sequiturref01_Plus.calls a0_0 a0_1 t226 t227 t228 t229 _ A6.out).mono ?_
    rintro e w52 ⟨rfl, hb⟩
    refine ⟨_, rfl, ?_⟩
    replace BK221 := zK (blk_below (g := gb221) (o := .cells #[.int .i64 a0_0, .int .u64 a0_1, .int .u64 a0_2] 151 (0, 0)) (zb BK221) hb)
    replace BK222 := zK (blk_below (g := gb222) (o := .cells #[.int .i64 0, .int .u64 0, .int .u64 0] 151 (0, 0)) (zb BK222) hb)
    replace BK225 := zK (blk_below (g := gb225) (o := .cells #[.int .i64 t223, .int .u64 t224] 107 (0, 0)) (zb BK225) hb)
    replace BK230 := zK (blk_below (g := gb230) (o := .cells #[.int .i64 0, .int .u64 0] 107 (0, 0)) (zb BK230) hb)
    replace HB := zK (below_step (zo HB) hb)
    (try clear hb); (try clear hb2); (try clear hk); (try clear hi)
    refine hK.out _ _ ⟨(blk_cell BK221.out 0).trans rfl, (blk_cell BK221.out 1).trans rfl, (blk_cell BK221.out 2).trans rfl, (blk_cell BK225.out 0).trans rfl, (blk_cell BK225.out 1).trans rfl⟩ (fun hHeld => ?_)
    clear hK K
    refine norm_ (a' := ?_) ?_ ?_; rotate_left; (show Act.put _ (some 23) _ = _; simp only [Act.put, zt, zz, zs, i64_w, i32_w]; rfl)
    exact norm_ (by simp only [putAll, Act.put, zt, zz, zs]) (hCont (gb230) _ ⟨hHeld, (zb BK221), (zb BK222), (zb BK225), (zb BK230), GW230.out, GE230.out, NB221_230.out, NB230_221.out, NB222_230.out, NB230_222.out, NB225_230.out, NB230_225.out, (zo HB)⟩)
  rintro gb230 w53 ⟨hS_, h0_, h1_, h2_, h3_, h4_, h5_, h6_, h7_, h8_, h9_, h10_, h11_, h12_⟩
  have n0_ : Aside0 (w53.heap[gb221]? = some (.cells #[.int .i64 a0_0, .int .u64 a0_1, .int .u64 a0_2] 151 (0, 0))) := ⟨h0_⟩
  have n1_ : Aside0 (w53.heap[gb222]? = some (.cells #[.int .i64 0, .int .u64 0, .int .u64 0] 151 (0, 0))) := ⟨h1_⟩
  have n2_ : Aside0 (w53.heap[gb225]? = some (.cells #[.int .i64 t223, .int .u64 t224] 107 (0, 0))) := ⟨h2_⟩
  have n3_ : Aside0 (w53.heap[gb230]? = some (.cells #[.int .i64 0, .int .u64 0] 107 (0, 0))) := ⟨h3_⟩
  have n4_ : Aside0 (w.heap.size ≤ gb230) := ⟨h4_⟩
  have n5_ : Aside0 (w.heap.size ≤ gb230) := ⟨h5_⟩
  have n6_ : Aside0 (gb221 ≠ gb230) := ⟨h6_⟩
  have n7_ : Aside0 (gb230 ≠ gb221) := ⟨h7_⟩
  have n8_ : Aside0 (gb222 ≠ gb230) := ⟨h8_⟩
  have n9_ : Aside0 (gb230 ≠ gb222) := ⟨h9_⟩
  have n10_ : Aside0 (gb225 ≠ gb230) := ⟨h10_⟩
  have n11_ : Aside0 (gb230 ≠ gb225) := ⟨h11_⟩
  have n12_ : Aside0 (Below w.heap.size w w53) := ⟨h12_⟩
  clear BK221 BK222 BK225 HB h0_ h1_ h2_ h3_ h4_ h5_ h6_ h7_ h8_ h9_ h10_ h11_ h12_
  have BK221 := n0_
  have BK222 := n1_
  have BK225 := n2_
  have BK230 := n3_
  have GW230 := n4_
  have GE230 := n5_
  have NB221_230 := n6_
  have NB230_221 := n7_
  have NB222_230 := n8_
  have NB230_222 := n9_
  have NB225_230 := n10_
  have NB230_225 := n11_
  have HB := n12_
  clear n0_ n1_ n2_ n3_ n4_ n5_ n6_ n7_ n8_ n9_ n10_ n11_ n12_
  have hHeld : w53.cell? ⟨gb221, 0, none⟩ = some (.int .i64 a0_0) ∧ w53.cell? ⟨gb221, 1, none⟩ = some (.int .u64 a0_1) ∧ w53.cell? ⟨gb221, 2, none⟩ = some (.int .u64 a0_2) ∧ w53.cell? ⟨gb225, 0, none⟩ = some (.int .i64 t223) ∧ w53.cell? ⟨gb225, 1, none⟩ = some (.int .u64 t224) := hS_
  refine norm_ (a' := ?_) ?_ ?_
  rotate_left
  ·simp only [putAll, Act.put, zt, zz, zs]
   rfl
  refine one_ (i := 7) (N := none) #[T_,T_,T_,T_,T_,T_,T_,T_] rfl rfl (one_of HT_.out (by kernel_rfl)) (by decide) (fun K hK => ?_)
  have hs54 : w53.cell? ⟨gb230, 0, none⟩ = some (.int .i64 0) := (blk_cell BK230.out 0).trans rfl
  have hfs54 := blk_frozen BK230.out 0
  have hns54_0 := NB221_230.out
  have hns54_1 := NB222_230.out
  have hns54_2 := NB225_230.out
  have hms54_0 := NB230_221.out
  have hms54_1 := NB230_222.out
  have hms54_2 := NB230_225.out
  have hs55 : w53.cell? ⟨gb230, 1, none⟩ = some (.int .u64 0) := (blk_cell BK230.out 1).trans rfl
  have hfs55 := blk_frozen BK230.out 1
  have hns55_0 := NB221_230.out
  have hns55_1 := NB222_230.out
  have hns55_2 := NB225_230.out
  have hms55_0 := NB230_221.out
  have hms55_1 := NB230_222.out
  have hms55_2 := NB230_225.out
  refine skip_ (w1 := ?_) (by rfl) rfl ?_ ?_
  rotate_left
  ·go_simp
   rfl
  refine hK.out _ _ ⟨((cell_far (p := ⟨gb230, _, none⟩) NB221_230.out _).trans (((cell_far (p := ⟨gb230, _, none⟩) NB221_230.out _).trans (hHeld.1)))), ((cell_far (p := ⟨gb230, _, none⟩) NB221_230.out _).trans (((cell_far (p := ⟨gb230, _, none⟩) NB221_230.out _).trans (hHeld.2.1)))), ((cell_far (p := ⟨gb230, _, none⟩) NB221_230.out _).trans (((cell_far (p := ⟨gb230, _, none⟩) NB221_230.out _).trans (hHeld.2.2.1)))), ((cell_far (p := ⟨gb230, _, none⟩) NB225_230.out _).trans (((cell_far (p := ⟨gb230, _, none⟩) NB225_230.out _).trans (hHeld.2.2.2.1)))), ((cell_far (p := ⟨gb230, _, none⟩) NB225_230.out _).trans (((cell_far (p := ⟨gb230, _, none⟩) NB225_230.out _).trans (hHeld.2.2.2.2))))⟩ (fun hHeld => ?_)
  clear hK K
  refine done_ (done_of HT_.out (by kernel_rfl)) ?_
  have hnb56 := NB221_230.out
  have hnc56 := NB230_221.out
  have hcz57_0 : w53.cell? ⟨gb221, 0, none⟩ = some (.int .i64 a0_0) := (blk_cell BK221.out 0).trans rfl
  have hcz57_1 : w53.cell? ⟨gb221, 1, none⟩ = some (.int .u64 a0_1) := (blk_cell BK221.out 1).trans rfl
  have hcz57_2 : w53.cell? ⟨gb221, 2, none⟩ = some (.int .u64 a0_2) := (blk_cell BK221.out 2).trans rfl
  have hfz57_0 := blk_frozen BK221.out 0
  have hfz57_1 := blk_frozen BK221.out 1
  have hfz57_2 := blk_frozen BK221.out 2
  have hnb58 := NB230_222.out
  have hnc58 := NB222_230.out
  have hnb59 := NB230_225.out
  have hnc59 := NB225_230.out
  have hcz60_0 : w53.cell? ⟨gb230, 0, none⟩ = some (.int .i64 0) := (blk_cell BK230.out 0).trans rfl
  have hcz60_1 : w53.cell? ⟨gb230, 1, none⟩ = some (.int .u64 0) := (blk_cell BK230.out 1).trans rfl
  have hfz60_0 := blk_frozen BK230.out 0
  have hfz60_1 := blk_frozen BK230.out 1
  have hcz61_0 : w53.cell? ⟨gb222, 0, none⟩ = some (.int .i64 0) := (blk_cell BK222.out 0).trans rfl
  have hcz61_1 : w53.cell? ⟨gb222, 1, none⟩ = some (.int .u64 0) := (blk_cell BK222.out 1).trans rfl
  have hcz61_2 : w53.cell? ⟨gb222, 2, none⟩ = some (.int .u64 0) := (blk_cell BK222.out 2).trans rfl
  have hfz61_0 := blk_frozen BK222.out 0
  have hfz61_1 := blk_frozen BK222.out 1
  have hfz61_2 := blk_frozen BK222.out 2
  try go_wp2
  refine bodyPost_ret (results_cell_row rfl _ _ gb222 151 #[.int .i64 t228, .int .u64 t229, .int .u64 (IntKind.u64.wrap (a0_2 + t224))] (0, 0) _ rfl (by refine zM ?_; refine blk_put (cs := #[.int .i64 t228, .int .u64 t229, .int .u64 0]) ?_ 2 _ rfl; refine zM ?_; refine blk_put (cs := #[.int .i64 t228, .int .u64 0, .int .u64 0]) ?_ 1 _ rfl; refine zM ?_; refine blk_put (cs := #[.int .i64 0, .int .u64 0, .int .u64 0]) ?_ 0 _ rfl; refine zM ?_; refine blk_far ?_ NB222_230.out _; refine zM ?_; refine blk_far ?_ NB222_230.out _; refine zM ?_; exact BK222.out) Try.underlying151 rfl (by kernel_rfl)) rfl ?_
  exact ⟨by first | rfl | (simp [errW_none, errW_some] <;> rfl) | (simp [*, errW_none, errW_some] <;> rfl), zo HB⟩

end Go.Proofs.Ytkfbfgkdabljiaa.PBoxFinds
