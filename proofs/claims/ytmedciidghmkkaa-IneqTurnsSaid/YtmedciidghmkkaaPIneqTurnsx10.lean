/- What the call of each function that the law reaches comes to: it answers as the plain function of the same name does, wherever that one answers; and the law itself out of its plain form. Written by a program of this session (an extended copy of the printer); no condition but what stands in each theorem. -/
import Derived.Test.YtmedciidghmkkaaPIneqTurnsx0
import Derived.Test.YtmedciidghmkkaaPIneqTurnsx9
namespace Go.Proofs.Ytmedciidghmkkaa.PIneqTurns
open Go.RowKit Go.Proofs.YtmedciidghmkkaaW.PrintWords Go.Proofs.YtmedciidghmkkaaW.PrintLast Go.Proofs.YtmedciidghmkkaaW.PrintMore
open Go.Proofs.YtmedciidghmkkaaW.PrintWords renaming blk_drewN → zN, blk_drew → zD, blk_alloc → zA, below_alloc → yA, pw_below_drewN → yN, below_drew1 → yD, below_set → yS, gate_callee → zC
open Go.Proofs.YtmedciidghmkkaaW.PrintWords.Aside0 renaming mk → zK
attribute [local go_sem] max2_int min2_int max_two min_two max_three min_three max_four min_four   -- for this text's walks alone
set_option linter.unusedVariables false
set_option linter.unusedSimpArgs false

/-! ### sequiturref28_More: function 51 -/
def sequiturref28_More.f (k : Nat) (a0_0 : Int) (a0_1 : Int) (a0_2 : Int) (a1 : Int) (a2 : Int) : Option (Int × Int × Int) := (sequiturref01_Times.f k a1 a2).bind fun bt323 => ((sequiturref01_Of.f bt323.1).bind fun bt326 => ((sequiturref01_Plus.f a0_0 a0_1 bt326.1 bt326.2).bind fun bt328 => (if (IntKind.u64.wrap (a0_2 + bt323.2)) < a0_2 then ((sequiturref01_Of.f 1).bind fun bt331 => ((sequiturref01_Plus.f bt328.1 bt328.2 bt331.1 bt331.2).bind fun bt333 => (some (bt333.1, bt333.2, IntKind.u64.wrap (a0_2 + bt323.2))))) else (some (bt328.1, bt328.2, IntKind.u64.wrap (a0_2 + bt323.2))))))
theorem sequiturref28_More.mono : ∀ a0 a1 a2 a3 a4 k, LeO (sequiturref28_More.f k a0 a1 a2 a3 a4) (sequiturref28_More.f (k + 1) a0 a1 a2 a3 a4) := by
 intro a0 a1 a2 a3 a4 k
 unfold sequiturref28_More.f
 repeat' first
   | (with_reducible exact sequiturref01_Times.mono _ _ _)
   | (with_reducible exact LeO.refl _)
   | (with_reducible exact LeO.none _)
   | (with_reducible refine LeO.ite ?_ ?_)
   | (with_reducible refine LeO.bind ?_ (fun _ => ?_))
   | exact sequiturref01_Times.mono _ _ _
   | exact LeO.none _
   | refine LeO.ite ?_ ?_
   | refine LeO.bind ?_ (fun _ => ?_)
def sequiturref28_More.T3 : Bool × List (List Nat × List Nat) := (true, [([], []), ([0], [0]), ([], []), ([2], [2]), ([3], [3]), ([1, 4, 4], [1, 4]), ([], []), ([6, 5, 5, 0, 1, 2, 3, 4, 5, 6], [5, 6])])
def sequiturref28_More.B3 : List Nat := [0, 1, 0, 4, 12, 31, 0, 127]
theorem sequiturref28_More.tab3 : rtab .any (opsOf Try.f51 3) = sequiturref28_More.T3 := by kernel_rfl
theorem sequiturref28_More.bits3 : waitsOk sequiturref28_More.T3.2 sequiturref28_More.B3 = true := by kernel_rfl
set_option maxHeartbeats 8000000 in
set_option maxRecDepth 100000 in
theorem sequiturref28_More.calls (k : Nat) (a0_0 : Int) (a0_1 : Int) (a0_2 : Int) (a1 : Int) (a2 : Int) (r1 : Int) (r2 : Int) (r3 : Int) (w : World) (h : sequiturref28_More.f k a0_0 a0_1 a0_2 a1 a2 = some (r1, r2, r3)) :
  Calls Try.prog 51 #[.agg #[.int .i64 a0_0, .int .u64 a0_1, .int .u64 a0_2], .int .i64 a1, .int .i64 a2] w fun e w' => e = .returned (.agg #[.int .i64 r1, .int .u64 r2, .int .u64 r3]) ∧ Below w.heap.size w w' := by
 have hu76 := Try.underlying76
 have hu74 := Try.underlying74
 have HB := zK (Below.refl w.heap.size w)
 have H : ((sequiturref01_Times.f k a1 a2).bind fun bt323 => ((sequiturref01_Of.f bt323.1).bind fun bt326 => ((sequiturref01_Plus.f a0_0 a0_1 bt326.1 bt326.2).bind fun bt328 => (if (IntKind.u64.wrap (a0_2 + bt323.2)) < a0_2 then ((sequiturref01_Of.f 1).bind fun bt331 => ((sequiturref01_Plus.f bt328.1 bt328.2 bt331.1 bt331.2).bind fun bt333 => (some (bt333.1, bt333.2, IntKind.u64.wrap (a0_2 + bt323.2))))) else (some (bt328.1, bt328.2, IntKind.u64.wrap (a0_2 + bt323.2))))))) = some (r1, r2, r3) := h
 clear h
 replace H := Option.bind_eq_some_iff.mp H
 obtain ⟨⟨t323, t324⟩, A40, H⟩ := H
 replace H : ((sequiturref01_Of.f t323).bind fun bt326 => ((sequiturref01_Plus.f a0_0 a0_1 bt326.1 bt326.2).bind fun bt328 => (if (IntKind.u64.wrap (a0_2 + t324)) < a0_2 then ((sequiturref01_Of.f 1).bind fun bt331 => ((sequiturref01_Plus.f bt328.1 bt328.2 bt331.1 bt331.2).bind fun bt333 => (some (bt333.1, bt333.2, IntKind.u64.wrap (a0_2 + t324))))) else (some (bt328.1, bt328.2, IntKind.u64.wrap (a0_2 + t324)))))) = some (r1, r2, r3) := H
 have A4 := zK A40
 clear A40
 replace H := Option.bind_eq_some_iff.mp H
 obtain ⟨⟨t326, t327⟩, A50, H⟩ := H
 replace H : ((sequiturref01_Plus.f a0_0 a0_1 t326 t327).bind fun bt328 => (if (IntKind.u64.wrap (a0_2 + t324)) < a0_2 then ((sequiturref01_Of.f 1).bind fun bt331 => ((sequiturref01_Plus.f bt328.1 bt328.2 bt331.1 bt331.2).bind fun bt333 => (some (bt333.1, bt333.2, IntKind.u64.wrap (a0_2 + t324))))) else (some (bt328.1, bt328.2, IntKind.u64.wrap (a0_2 + t324))))) = some (r1, r2, r3) := H
 have A5 := zK A50
 clear A50
 replace H := Option.bind_eq_some_iff.mp H
 obtain ⟨⟨t328, t329⟩, A60, H⟩ := H
 replace H : (if (IntKind.u64.wrap (a0_2 + t324)) < a0_2 then ((sequiturref01_Of.f 1).bind fun bt331 => ((sequiturref01_Plus.f t328 t329 bt331.1 bt331.2).bind fun bt333 => (some (bt333.1, bt333.2, IntKind.u64.wrap (a0_2 + t324))))) else (some (t328, t329, IntKind.u64.wrap (a0_2 + t324)))) = some (r1, r2, r3) := H
 have A6 := zK A60
 clear A60
 by_cases c7 : (IntKind.u64.wrap (a0_2 + t324)) < a0_2
 ·rw [if_pos c7] at H
  have c7b0 : decide ((IntKind.u64.wrap (a0_2 + t324)) < a0_2) = true := decide_eq_true c7
  clear c7
  replace H := Option.bind_eq_some_iff.mp H
  obtain ⟨⟨t331, t332⟩, A80, H⟩ := H
  replace H : ((sequiturref01_Plus.f t328 t329 t331 t332).bind fun bt333 => (some (bt333.1, bt333.2, IntKind.u64.wrap (a0_2 + t324)))) = some (r1, r2, r3) := H
  have A8 := zK A80
  clear A80
  replace H := Option.bind_eq_some_iff.mp H
  obtain ⟨⟨t333, t334⟩, A90, H⟩ := H
  replace H : (some (t333, t334, IntKind.u64.wrap (a0_2 + t324))) = some (r1, r2, r3) := H
  have A9 := zK A90
  clear A90
  simp only [Option.some.injEq, Prod.mk.injEq] at H
  obtain ⟨rfl, rfl, rfl⟩ := H
  go_enter Try.func51, Try.ntmps51
  try go_wp2_with (first | ((with_reducible refine gate_dst (N := 3) rfl ?_); refine box_event ?hg (N := 3) ?hd (cs := #[.int .i64 a0_0, .int .u64 a0_1, .int .u64 a0_2]) (t := 76) ?hr ?_; (case hd => rfl); (case hg => rfl); (case hr => first | (go_simp; done) | (go_simp; rfl)); intro gb321 hg w10 hbox hb; have BK321 := zK (hbox); have GW321 := zK ((by rw [hg]; exact (below_size (zo HB)) : w.heap.size ≤ gb321)); have GE321 := zK ((by rw [hg]; exact (below_size (zo HB)) : w.heap.size ≤ gb321)); replace HB := zK (below_step (zo HB) hb); clear hb hbox hg) | ((with_reducible refine gate_dst (N := 6) rfl ?_); refine box_event ?hg (N := 6) ?hd (cs := #[.int .i64 0, .int .u64 0, .int .u64 0]) (t := 76) ?hr ?_; (case hd => rfl); (case hg => rfl); (case hr => first | (go_simp; done) | (go_simp; rfl)); intro gb322 hg w11 hbox hb; have BK322 := zK (hbox); have GW322 := zK ((by rw [hg]; exact (below_size (zo HB)) : w.heap.size ≤ gb322)); have GE322 := zK ((by rw [hg]; exact (below_size (zo HB)) : w.heap.size ≤ gb322)); replace HB := zK (below_step (zo HB) hb); have NB321_322 := zK ((by rw [hg]; exact Nat.ne_of_lt (blk_lt (g := gb321) (o := .cells #[.int .i64 a0_0, .int .u64 a0_1, .int .u64 a0_2] 76 (0, 0)) (zb BK321)) : gb321 ≠ gb322)); have NB322_321 := zK ((by rw [hg]; exact Nat.ne_of_gt (blk_lt (g := gb321) (o := .cells #[.int .i64 a0_0, .int .u64 a0_1, .int .u64 a0_2] 76 (0, 0)) (zb BK321)) : gb322 ≠ gb321)); replace BK321 := zK (blk_below (g := gb321) (o := .cells #[.int .i64 a0_0, .int .u64 a0_1, .int .u64 a0_2] 76 (0, 0)) (zb BK321) hb); clear hb hbox hg) | ((with_reducible refine zC (f := 64) rfl ?_); refine goesL_ (some 12) rfl rfl Try.func64 (by kernel_rfl) rfl #[.int .i64 a1, .int .i64 a2] rfl (by (try simp only [List.map_toArray, List.map_cons, List.map_nil]); first | done | rfl | (simp only [List.length_drop, List.length_take]; rfl)) ?_; (with_reducible refine (sequiturref01_Times.calls k a1 a2 t323 t324 _ A4.out).mono ?_); rintro e w12 ⟨rfl, hb⟩; refine ⟨_, rfl, ?_⟩; replace BK321 := zK (blk_below (g := gb321) (o := .cells #[.int .i64 a0_0, .int .u64 a0_1, .int .u64 a0_2] 76 (0, 0)) (zb BK321) hb); replace BK322 := zK (blk_below (g := gb322) (o := .cells #[.int .i64 0, .int .u64 0, .int .u64 0] 76 (0, 0)) (zb BK322) hb); replace HB := zK (below_step (zo HB) hb); (try clear hb); (try clear hb2); (try clear hk); (try clear hi)) | ((with_reducible refine gate_dst (N := 7) rfl ?_); refine box_event ?hg (N := 7) ?hd (cs := #[.int .i64 0, .int .u64 0]) (t := 74) ?hr ?_; (case hd => rfl); (case hg => rfl); (case hr => first | (go_simp; done) | (go_simp; rfl)); intro gb325 hg w13 hbox hb; have BK325 := zK (hbox); have GW325 := zK ((by rw [hg]; exact (below_size (zo HB)) : w.heap.size ≤ gb325)); have GE325 := zK ((by rw [hg]; exact (below_size (zo HB)) : w.heap.size ≤ gb325)); replace HB := zK (below_step (zo HB) hb); have NB321_325 := zK ((by rw [hg]; exact Nat.ne_of_lt (blk_lt (g := gb321) (o := .cells #[.int .i64 a0_0, .int .u64 a0_1, .int .u64 a0_2] 76 (0, 0)) (zb BK321)) : gb321 ≠ gb325)); have NB325_321 := zK ((by rw [hg]; exact Nat.ne_of_gt (blk_lt (g := gb321) (o := .cells #[.int .i64 a0_0, .int .u64 a0_1, .int .u64 a0_2] 76 (0, 0)) (zb BK321)) : gb325 ≠ gb321)); replace BK321 := zK (blk_below (g := gb321) (o := .cells #[.int .i64 a0_0, .int .u64 a0_1, .int .u64 a0_2] 76 (0, 0)) (zb BK321) hb); have NB322_325 := zK ((by rw [hg]; exact Nat.ne_of_lt (blk_lt (g := gb322) (o := .cells #[.int .i64 0, .int .u64 0, .int .u64 0] 76 (0, 0)) (zb BK322)) : gb322 ≠ gb325)); have NB325_322 := zK ((by rw [hg]; exact Nat.ne_of_gt (blk_lt (g := gb322) (o := .cells #[.int .i64 0, .int .u64 0, .int .u64 0] 76 (0, 0)) (zb BK322)) : gb325 ≠ gb322)); replace BK322 := zK (blk_below (g := gb322) (o := .cells #[.int .i64 0, .int .u64 0, .int .u64 0] 76 (0, 0)) (zb BK322) hb); clear hb hbox hg; have hnb14 := NB325_321.out; have hnc14 := NB321_325.out; have hnb15 := NB325_322.out; have hnc15 := NB322_325.out; have hcz16_0 : w13.cell? ⟨gb325, 0, none⟩ = some (.int .i64 0) := (blk_cell BK325.out 0).trans rfl; have hcz16_1 : w13.cell? ⟨gb325, 1, none⟩ = some (.int .u64 0) := (blk_cell BK325.out 1).trans rfl; have hfz16_0 := blk_frozen BK325.out 0; have hfz16_1 := blk_frozen BK325.out 1; have hnb17 := NB321_322.out; have hnc17 := NB322_321.out; have hcz18_0 : w13.cell? ⟨gb321, 0, none⟩ = some (.int .i64 a0_0) := (blk_cell BK321.out 0).trans rfl; have hcz18_1 : w13.cell? ⟨gb321, 1, none⟩ = some (.int .u64 a0_1) := (blk_cell BK321.out 1).trans rfl; have hcz18_2 : w13.cell? ⟨gb321, 2, none⟩ = some (.int .u64 a0_2) := (blk_cell BK321.out 2).trans rfl; have hfz18_0 := blk_frozen BK321.out 0; have hfz18_1 := blk_frozen BK321.out 1; have hfz18_2 := blk_frozen BK321.out 2))
  have n0_ : Aside0 (((w13.setCell ⟨gb325, 0, none⟩ (.int .i64 t323)).setCell ⟨gb325, 1, none⟩ (.int .u64 t324)).heap[gb321]? = some (.cells #[.int .i64 a0_0, .int .u64 a0_1, .int .u64 a0_2] 76 (0, 0))) := ⟨zb BK321⟩
  have n1_ : Aside0 (((w13.setCell ⟨gb325, 0, none⟩ (.int .i64 t323)).setCell ⟨gb325, 1, none⟩ (.int .u64 t324)).heap[gb322]? = some (.cells #[.int .i64 0, .int .u64 0, .int .u64 0] 76 (0, 0))) := ⟨zb BK322⟩
  have n2_ : Aside0 (((w13.setCell ⟨gb325, 0, none⟩ (.int .i64 t323)).setCell ⟨gb325, 1, none⟩ (.int .u64 t324)).heap[gb325]? = some (.cells #[.int .i64 t323, .int .u64 t324] 74 (0, 0))) := ⟨by refine zM ?_; refine blk_put (cs := #[.int .i64 t323, .int .u64 0]) ?_ 1 _ rfl; refine zM ?_; refine blk_put (cs := #[.int .i64 0, .int .u64 0]) ?_ 0 _ rfl; refine zM ?_; exact BK325.out⟩
  have n3_ : Aside0 (Below w.heap.size w ((w13.setCell ⟨gb325, 0, none⟩ (.int .i64 t323)).setCell ⟨gb325, 1, none⟩ (.int .u64 t324))) := ⟨zo HB⟩
  (try clear BK321)
  (try clear BK322)
  (try clear BK325)
  (try clear HB)
  generalize ((w13.setCell ⟨gb325, 0, none⟩ (.int .i64 t323)).setCell ⟨gb325, 1, none⟩ (.int .u64 t324)) = w19 at n0_ n1_ n2_ n3_ ⊢
  have BK321 := n0_
  have BK322 := n1_
  have BK325 := n2_
  have HB := n3_
  clear n0_ n1_ n2_ n3_
  replace BK321 := zK (zD BK321.out)
  replace BK322 := zK (zD BK322.out)
  replace BK325 := zK (zD BK325.out)
  replace HB := zK (yD HB.out)
  refine start_ (n := 8) (S := fun w' => w'.cell? ⟨gb321, 0, none⟩ = some (.int .i64 a0_0) ∧ w'.cell? ⟨gb321, 1, none⟩ = some (.int .u64 a0_1) ∧ w'.cell? ⟨gb321, 2, none⟩ = some (.int .u64 a0_2) ∧ w'.cell? ⟨gb325, 0, none⟩ = some (.int .i64 t323) ∧ w'.cell? ⟨gb325, 1, none⟩ = some (.int .u64 t324)) (ds := []) #[false, false, false, false, false, false, false, false] (by kernel_rfl) rfl rfl ⟨(blk_cell BK321.out 0).trans rfl, (blk_cell BK321.out 1).trans rfl, (blk_cell BK321.out 2).trans rfl, (blk_cell BK325.out 0).trans rfl, (blk_cell BK325.out 1).trans rfl⟩ (fun hHeld => ?_); refine with_tabW sequiturref28_More.tab3 sequiturref28_More.bits3 (fun HT_ HW_ => ?_)
  generalize w19.drew = w20 at BK321 BK322 BK325 HB hHeld ⊢
  refine pure_ (i := 0) (N := some 18) (v := ?_) (a' := ?_) #[true, false, false, false, false, false, false, false] rfl rfl (any_of HT_.out (by kernel_rfl)) (fun _ _ _ h => h) (Or.inl ⟨by rfl, ?_⟩) ?_ ?_
  rotate_left
  ·intro w'
   go_simp
   with_reducible rfl
  rotate_left
  ·simp only [Act.put, List.setIfInBounds_toArray, List.set_cons_zero, List.set_cons_succ, i64_w, i32_w]
   rfl
  refine pure_ (i := 2) (N := some 20) (v := ?_) (a' := ?_) #[true, false, true, false, false, false, false, false] rfl rfl (any_of HT_.out (by kernel_rfl)) (fun _ _ _ h => h) (Or.inl ⟨by rfl, ?_⟩) ?_ ?_
  rotate_left
  ·intro w'
   go_simp
   with_reducible rfl
  rotate_left
  ·simp only [Act.put, List.setIfInBounds_toArray, List.set_cons_zero, List.set_cons_succ, i64_w, i32_w]
   rfl
  refine take_ (i := 1) (N := some 19) (v := ?_) (a' := ?_) #[true, true, true, false, false, false, false, false] rfl rfl (take_ofW HT_.out HW_.out (by kernel_rfl)) (fun _ _ _ h => h) (Or.inl ⟨by rfl, ?_⟩) hHeld ?_ ?_
  rotate_left
  ·rintro w' ⟨s0, s1, s2, s3, s4⟩
   go_simp
   with_reducible rfl
  rotate_left
  ·simp only [Act.put, List.setIfInBounds_toArray, List.set_cons_zero, List.set_cons_succ, i64_w, i32_w]
   rfl
  refine take_ (i := 3) (N := some 21) (v := ?_) (a' := ?_) #[true, true, true, true, false, false, false, false] rfl rfl (take_ofW HT_.out HW_.out (by kernel_rfl)) (fun _ _ _ h => h) (Or.inl ⟨by rfl, ?_⟩) hHeld ?_ ?_
  rotate_left
  ·rintro w' ⟨s0, s1, s2, s3, s4⟩
   go_simp
   with_reducible rfl
  rotate_left
  ·simp only [Act.put, List.setIfInBounds_toArray, List.set_cons_zero, List.set_cons_succ, i64_w, i32_w]
   rfl
  refine join_ (σ := Nat) 1 #[true, true, true, true, true, true, true, false] (fun s_ => [(22, .agg #[.int .i64 t326, .int .u64 t327]), (23, .agg #[.int .i64 t328, .int .u64 t329]), (9, .pointer (some ⟨s_, 0, none⟩))]) (fun s_ w' => (w'.cell? ⟨gb321, 0, none⟩ = some (.int .i64 a0_0) ∧ w'.cell? ⟨gb321, 1, none⟩ = some (.int .u64 a0_1) ∧ w'.cell? ⟨gb321, 2, none⟩ = some (.int .u64 a0_2) ∧ w'.cell? ⟨gb325, 0, none⟩ = some (.int .i64 t323) ∧ w'.cell? ⟨gb325, 1, none⟩ = some (.int .u64 t324)) ∧ (w'.heap[gb321]? = some (.cells #[.int .i64 a0_0, .int .u64 a0_1, .int .u64 a0_2] 76 (0, 0))) ∧ (w'.heap[gb322]? = some (.cells #[.int .i64 0, .int .u64 0, .int .u64 0] 76 (0, 0))) ∧ (w'.heap[gb325]? = some (.cells #[.int .i64 t323, .int .u64 t324] 74 (0, 0))) ∧ (w'.heap[s_]? = some (.cells #[.int .i64 0, .int .u64 0] 74 (0, 0))) ∧ (w.heap.size ≤ s_) ∧ (w.heap.size ≤ s_) ∧ (gb321 ≠ s_) ∧ (s_ ≠ gb321) ∧ (gb322 ≠ s_) ∧ (s_ ≠ gb322) ∧ (gb325 ≠ s_) ∧ (s_ ≠ gb325) ∧ (Below w.heap.size w w')) ?_ ?_
  rotate_left
  ·intro hCont
   refine two_ (i := 4) (j := 6) (Ni := some 22) (Nj := some 9) #[true, true, true, true, true, false, false, false] #[true, true, true, true, false, false, true, false] rfl rfl rfl rfl (two_of HT_.out (by kernel_rfl)) (by decide) (by decide) (fun K hK => ?_) (fun K hK => ?_)
   ·skip
    refine goes_ Try.func66 (by kernel_rfl) rfl #[.int .i64 t323] (by rfl) rfl rfl (by (try simp only [List.map_toArray, List.map_cons, List.map_nil]); first | done | rfl | (simp only [List.length_drop, List.length_take]; rfl)) ?_
    with_reducible refine (sequiturref01_Of.calls t323 t326 t327 _ A5.out).mono ?_
    rintro e w21 ⟨rfl, hb⟩
    refine ⟨_, rfl, ?_⟩
    replace BK321 := zK (blk_below (g := gb321) (o := .cells #[.int .i64 a0_0, .int .u64 a0_1, .int .u64 a0_2] 76 (0, 0)) (zb BK321) hb)
    replace BK322 := zK (blk_below (g := gb322) (o := .cells #[.int .i64 0, .int .u64 0, .int .u64 0] 76 (0, 0)) (zb BK322) hb)
    replace BK325 := zK (blk_below (g := gb325) (o := .cells #[.int .i64 t323, .int .u64 t324] 74 (0, 0)) (zb BK325) hb)
    replace HB := zK (below_step (zo HB) hb)
    (try clear hb)
    (try clear hb2)
    (try clear hk)
    (try clear hi)
    refine hK.out _ _ ⟨(blk_cell BK321.out 0).trans rfl, (blk_cell BK321.out 1).trans rfl, (blk_cell BK321.out 2).trans rfl, (blk_cell BK325.out 0).trans rfl, (blk_cell BK325.out 1).trans rfl⟩ (fun hHeld => ?_)
    clear hK K
    refine norm_ (a' := ?_) ?_ ?_
    rotate_left
    ·show Act.put _ (some 22) _ = _
     simp only [Act.put, List.setIfInBounds_toArray, List.set_cons_zero, List.set_cons_succ, i64_w, i32_w]
     rfl
    refine two_ (i := 5) (j := 6) (Ni := some 23) (Nj := some 9) #[true, true, true, true, true, true, false, false] #[true, true, true, true, true, false, true, false] rfl rfl rfl rfl (two_of HT_.out (by kernel_rfl)) (by decide) (by decide) (fun K hK => ?_) (fun K hK => ?_)
    ·skip
     refine goes_ Try.func65 (by kernel_rfl) rfl #[.agg #[.int .i64 a0_0, .int .u64 a0_1], .agg #[.int .i64 t326, .int .u64 t327]] (by rfl) rfl rfl (by (try simp only [List.map_toArray, List.map_cons, List.map_nil]); first | done | rfl | (simp only [List.length_drop, List.length_take]; rfl)) ?_
     with_reducible refine (sequiturref01_Plus.calls a0_0 a0_1 t326 t327 t328 t329 _ A6.out).mono ?_
     rintro e w22 ⟨rfl, hb⟩
     refine ⟨_, rfl, ?_⟩
     replace BK321 := zK (blk_below (g := gb321) (o := .cells #[.int .i64 a0_0, .int .u64 a0_1, .int .u64 a0_2] 76 (0, 0)) (zb BK321) hb)
     replace BK322 := zK (blk_below (g := gb322) (o := .cells #[.int .i64 0, .int .u64 0, .int .u64 0] 76 (0, 0)) (zb BK322) hb)
     replace BK325 := zK (blk_below (g := gb325) (o := .cells #[.int .i64 t323, .int .u64 t324] 74 (0, 0)) (zb BK325) hb)
     replace HB := zK (below_step (zo HB) hb)
     (try clear hb)
     (try clear hb2)
     (try clear hk)
     (try clear hi)
     refine hK.out _ _ ⟨(blk_cell BK321.out 0).trans rfl, (blk_cell BK321.out 1).trans rfl, (blk_cell BK321.out 2).trans rfl, (blk_cell BK325.out 0).trans rfl, (blk_cell BK325.out 1).trans rfl⟩ (fun hHeld => ?_)
     clear hK K
     refine norm_ (a' := ?_) ?_ ?_
     rotate_left
     ·show Act.put _ (some 23) _ = _
      simp only [Act.put, List.setIfInBounds_toArray, List.set_cons_zero, List.set_cons_succ, i64_w, i32_w]
      rfl
     refine one_ (i := 6) (N := some 9) #[true, true, true, true, true, true, true, false] rfl rfl (one_of HT_.out (by kernel_rfl)) (by decide) (fun K hK => ?_)
     refine box_step ?hg (N := 9) ?hd (cs := #[.int .i64 0, .int .u64 0]) (t := 74) ?hr ?_; (case hd => rfl); (case hg => rfl); (case hr => first | (go_simp; done) | (go_simp; rfl))
     intro gb330 hg w23 hbox hb
     have BK330 := zK (hbox)
     have GW330 := zK ((by rw [hg]; exact (below_size (zo HB)) : w.heap.size ≤ gb330))
     have GE330 := zK ((by rw [hg]; exact (below_size (zo HB)) : w.heap.size ≤ gb330))
     replace HB := zK (below_step (zo HB) hb)
     have NB321_330 := zK ((by rw [hg]; exact Nat.ne_of_lt (blk_lt (g := gb321) (o := .cells #[.int .i64 a0_0, .int .u64 a0_1, .int .u64 a0_2] 76 (0, 0)) (zb BK321)) : gb321 ≠ gb330))
     have NB330_321 := zK ((by rw [hg]; exact Nat.ne_of_gt (blk_lt (g := gb321) (o := .cells #[.int .i64 a0_0, .int .u64 a0_1, .int .u64 a0_2] 76 (0, 0)) (zb BK321)) : gb330 ≠ gb321))
     replace BK321 := zK (blk_below (g := gb321) (o := .cells #[.int .i64 a0_0, .int .u64 a0_1, .int .u64 a0_2] 76 (0, 0)) (zb BK321) hb)
     have NB322_330 := zK ((by rw [hg]; exact Nat.ne_of_lt (blk_lt (g := gb322) (o := .cells #[.int .i64 0, .int .u64 0, .int .u64 0] 76 (0, 0)) (zb BK322)) : gb322 ≠ gb330))
     have NB330_322 := zK ((by rw [hg]; exact Nat.ne_of_gt (blk_lt (g := gb322) (o := .cells #[.int .i64 0, .int .u64 0, .int .u64 0] 76 (0, 0)) (zb BK322)) : gb330 ≠ gb322))
     replace BK322 := zK (blk_below (g := gb322) (o := .cells #[.int .i64 0, .int .u64 0, .int .u64 0] 76 (0, 0)) (zb BK322) hb)
     have NB325_330 := zK ((by rw [hg]; exact Nat.ne_of_lt (blk_lt (g := gb325) (o := .cells #[.int .i64 t323, .int .u64 t324] 74 (0, 0)) (zb BK325)) : gb325 ≠ gb330))
     have NB330_325 := zK ((by rw [hg]; exact Nat.ne_of_gt (blk_lt (g := gb325) (o := .cells #[.int .i64 t323, .int .u64 t324] 74 (0, 0)) (zb BK325)) : gb330 ≠ gb325))
     replace BK325 := zK (blk_below (g := gb325) (o := .cells #[.int .i64 t323, .int .u64 t324] 74 (0, 0)) (zb BK325) hb)
     clear hb hbox hg
     refine hK.out _ _ ⟨(blk_cell BK321.out 0).trans rfl, (blk_cell BK321.out 1).trans rfl, (blk_cell BK321.out 2).trans rfl, (blk_cell BK325.out 0).trans rfl, (blk_cell BK325.out 1).trans rfl⟩ (fun hHeld => ?_)
     clear hK K
     refine norm_ (a' := ?_) ?_ ?_
     rotate_left
     ·show Act.put _ (some 9) _ = _
      simp only [Act.put, List.setIfInBounds_toArray, List.set_cons_zero, List.set_cons_succ, i64_w, i32_w]
      rfl
     exact norm_ (by simp only [putAll, Act.put, List.setIfInBounds_toArray, List.set_cons_zero, List.set_cons_succ]) (hCont (gb330) _ ⟨hHeld, (zb BK321), (zb BK322), (zb BK325), (zb BK330), GW330.out, GE330.out, NB321_330.out, NB330_321.out, NB322_330.out, NB330_322.out, NB325_330.out, NB330_325.out, (zo HB)⟩)
    ·skip
     refine box_step ?hg (N := 9) ?hd (cs := #[.int .i64 0, .int .u64 0]) (t := 74) ?hr ?_; (case hd => rfl); (case hg => rfl); (case hr => first | (go_simp; done) | (go_simp; rfl))
     intro gb330 hg w22 hbox hb
     have BK330 := zK (hbox)
     have GW330 := zK ((by rw [hg]; exact (below_size (zo HB)) : w.heap.size ≤ gb330))
     have GE330 := zK ((by rw [hg]; exact (below_size (zo HB)) : w.heap.size ≤ gb330))
     replace HB := zK (below_step (zo HB) hb)
     have NB321_330 := zK ((by rw [hg]; exact Nat.ne_of_lt (blk_lt (g := gb321) (o := .cells #[.int .i64 a0_0, .int .u64 a0_1, .int .u64 a0_2] 76 (0, 0)) (zb BK321)) : gb321 ≠ gb330))
     have NB330_321 := zK ((by rw [hg]; exact Nat.ne_of_gt (blk_lt (g := gb321) (o := .cells #[.int .i64 a0_0, .int .u64 a0_1, .int .u64 a0_2] 76 (0, 0)) (zb BK321)) : gb330 ≠ gb321))
     replace BK321 := zK (blk_below (g := gb321) (o := .cells #[.int .i64 a0_0, .int .u64 a0_1, .int .u64 a0_2] 76 (0, 0)) (zb BK321) hb)
     have NB322_330 := zK ((by rw [hg]; exact Nat.ne_of_lt (blk_lt (g := gb322) (o := .cells #[.int .i64 0, .int .u64 0, .int .u64 0] 76 (0, 0)) (zb BK322)) : gb322 ≠ gb330))
     have NB330_322 := zK ((by rw [hg]; exact Nat.ne_of_gt (blk_lt (g := gb322) (o := .cells #[.int .i64 0, .int .u64 0, .int .u64 0] 76 (0, 0)) (zb BK322)) : gb330 ≠ gb322))
     replace BK322 := zK (blk_below (g := gb322) (o := .cells #[.int .i64 0, .int .u64 0, .int .u64 0] 76 (0, 0)) (zb BK322) hb)
     have NB325_330 := zK ((by rw [hg]; exact Nat.ne_of_lt (blk_lt (g := gb325) (o := .cells #[.int .i64 t323, .int .u64 t324] 74 (0, 0)) (zb BK325)) : gb325 ≠ gb330))
     have NB330_325 := zK ((by rw [hg]; exact Nat.ne_of_gt (blk_lt (g := gb325) (o := .cells #[.int .i64 t323, .int .u64 t324] 74 (0, 0)) (zb BK325)) : gb330 ≠ gb325))
     replace BK325 := zK (blk_below (g := gb325) (o := .cells #[.int .i64 t323, .int .u64 t324] 74 (0, 0)) (zb BK325) hb)
     clear hb hbox hg
     refine hK.out _ _ ⟨(blk_cell BK321.out 0).trans rfl, (blk_cell BK321.out 1).trans rfl, (blk_cell BK321.out 2).trans rfl, (blk_cell BK325.out 0).trans rfl, (blk_cell BK325.out 1).trans rfl⟩ (fun hHeld => ?_)
     clear hK K
     refine norm_ (a' := ?_) ?_ ?_
     rotate_left
     ·show Act.put _ (some 9) _ = _
      simp only [Act.put, List.setIfInBounds_toArray, List.set_cons_zero, List.set_cons_succ, i64_w, i32_w]
      rfl
     refine one_ (i := 5) (N := some 23) #[true, true, true, true, true, true, true, false] rfl rfl (one_of HT_.out (by kernel_rfl)) (by decide) (fun K hK => ?_)
     refine goes_ Try.func65 (by kernel_rfl) rfl #[.agg #[.int .i64 a0_0, .int .u64 a0_1], .agg #[.int .i64 t326, .int .u64 t327]] (by rfl) rfl rfl (by (try simp only [List.map_toArray, List.map_cons, List.map_nil]); first | done | rfl | (simp only [List.length_drop, List.length_take]; rfl)) ?_
     with_reducible refine (sequiturref01_Plus.calls a0_0 a0_1 t326 t327 t328 t329 _ A6.out).mono ?_
     rintro e w23 ⟨rfl, hb⟩
     refine ⟨_, rfl, ?_⟩
     replace BK321 := zK (blk_below (g := gb321) (o := .cells #[.int .i64 a0_0, .int .u64 a0_1, .int .u64 a0_2] 76 (0, 0)) (zb BK321) hb)
     replace BK322 := zK (blk_below (g := gb322) (o := .cells #[.int .i64 0, .int .u64 0, .int .u64 0] 76 (0, 0)) (zb BK322) hb)
     replace BK325 := zK (blk_below (g := gb325) (o := .cells #[.int .i64 t323, .int .u64 t324] 74 (0, 0)) (zb BK325) hb)
     replace BK330 := zK (blk_below (g := gb330) (o := .cells #[.int .i64 0, .int .u64 0] 74 (0, 0)) (zb BK330) hb)
     replace HB := zK (below_step (zo HB) hb)
     (try clear hb)
     (try clear hb2)
     (try clear hk)
     (try clear hi)
     refine hK.out _ _ ⟨(blk_cell BK321.out 0).trans rfl, (blk_cell BK321.out 1).trans rfl, (blk_cell BK321.out 2).trans rfl, (blk_cell BK325.out 0).trans rfl, (blk_cell BK325.out 1).trans rfl⟩ (fun hHeld => ?_)
     clear hK K
     refine norm_ (a' := ?_) ?_ ?_
     rotate_left
     ·show Act.put _ (some 23) _ = _
      simp only [Act.put, List.setIfInBounds_toArray, List.set_cons_zero, List.set_cons_succ, i64_w, i32_w]
      rfl
     exact norm_ (by simp only [putAll, Act.put, List.setIfInBounds_toArray, List.set_cons_zero, List.set_cons_succ]) (hCont (gb330) _ ⟨hHeld, (zb BK321), (zb BK322), (zb BK325), (zb BK330), GW330.out, GE330.out, NB321_330.out, NB330_321.out, NB322_330.out, NB330_322.out, NB325_330.out, NB330_325.out, (zo HB)⟩)
   ·skip
    refine box_step ?hg (N := 9) ?hd (cs := #[.int .i64 0, .int .u64 0]) (t := 74) ?hr ?_; (case hd => rfl); (case hg => rfl); (case hr => first | (go_simp; done) | (go_simp; rfl))
    intro gb330 hg w21 hbox hb
    have BK330 := zK (hbox)
    have GW330 := zK ((by rw [hg]; exact (below_size (zo HB)) : w.heap.size ≤ gb330))
    have GE330 := zK ((by rw [hg]; exact (below_size (zo HB)) : w.heap.size ≤ gb330))
    replace HB := zK (below_step (zo HB) hb)
    have NB321_330 := zK ((by rw [hg]; exact Nat.ne_of_lt (blk_lt (g := gb321) (o := .cells #[.int .i64 a0_0, .int .u64 a0_1, .int .u64 a0_2] 76 (0, 0)) (zb BK321)) : gb321 ≠ gb330))
    have NB330_321 := zK ((by rw [hg]; exact Nat.ne_of_gt (blk_lt (g := gb321) (o := .cells #[.int .i64 a0_0, .int .u64 a0_1, .int .u64 a0_2] 76 (0, 0)) (zb BK321)) : gb330 ≠ gb321))
    replace BK321 := zK (blk_below (g := gb321) (o := .cells #[.int .i64 a0_0, .int .u64 a0_1, .int .u64 a0_2] 76 (0, 0)) (zb BK321) hb)
    have NB322_330 := zK ((by rw [hg]; exact Nat.ne_of_lt (blk_lt (g := gb322) (o := .cells #[.int .i64 0, .int .u64 0, .int .u64 0] 76 (0, 0)) (zb BK322)) : gb322 ≠ gb330))
    have NB330_322 := zK ((by rw [hg]; exact Nat.ne_of_gt (blk_lt (g := gb322) (o := .cells #[.int .i64 0, .int .u64 0, .int .u64 0] 76 (0, 0)) (zb BK322)) : gb330 ≠ gb322))
    replace BK322 := zK (blk_below (g := gb322) (o := .cells #[.int .i64 0, .int .u64 0, .int .u64 0] 76 (0, 0)) (zb BK322) hb)
    have NB325_330 := zK ((by rw [hg]; exact Nat.ne_of_lt (blk_lt (g := gb325) (o := .cells #[.int .i64 t323, .int .u64 t324] 74 (0, 0)) (zb BK325)) : gb325 ≠ gb330))
    have NB330_325 := zK ((by rw [hg]; exact Nat.ne_of_gt (blk_lt (g := gb325) (o := .cells #[.int .i64 t323, .int .u64 t324] 74 (0, 0)) (zb BK325)) : gb330 ≠ gb325))
    replace BK325 := zK (blk_below (g := gb325) (o := .cells #[.int .i64 t323, .int .u64 t324] 74 (0, 0)) (zb BK325) hb)
    clear hb hbox hg
    refine hK.out _ _ ⟨(blk_cell BK321.out 0).trans rfl, (blk_cell BK321.out 1).trans rfl, (blk_cell BK321.out 2).trans rfl, (blk_cell BK325.out 0).trans rfl, (blk_cell BK325.out 1).trans rfl⟩ (fun hHeld => ?_)
    clear hK K
    refine norm_ (a' := ?_) ?_ ?_
    rotate_left
    ·show Act.put _ (some 9) _ = _
     simp only [Act.put, List.setIfInBounds_toArray, List.set_cons_zero, List.set_cons_succ, i64_w, i32_w]
     rfl
    refine one_ (i := 4) (N := some 22) #[true, true, true, true, true, false, true, false] rfl rfl (one_of HT_.out (by kernel_rfl)) (by decide) (fun K hK => ?_)
    refine goes_ Try.func66 (by kernel_rfl) rfl #[.int .i64 t323] (by rfl) rfl rfl (by (try simp only [List.map_toArray, List.map_cons, List.map_nil]); first | done | rfl | (simp only [List.length_drop, List.length_take]; rfl)) ?_
    with_reducible refine (sequiturref01_Of.calls t323 t326 t327 _ A5.out).mono ?_
    rintro e w22 ⟨rfl, hb⟩
    refine ⟨_, rfl, ?_⟩
    replace BK321 := zK (blk_below (g := gb321) (o := .cells #[.int .i64 a0_0, .int .u64 a0_1, .int .u64 a0_2] 76 (0, 0)) (zb BK321) hb)
    replace BK322 := zK (blk_below (g := gb322) (o := .cells #[.int .i64 0, .int .u64 0, .int .u64 0] 76 (0, 0)) (zb BK322) hb)
    replace BK325 := zK (blk_below (g := gb325) (o := .cells #[.int .i64 t323, .int .u64 t324] 74 (0, 0)) (zb BK325) hb)
    replace BK330 := zK (blk_below (g := gb330) (o := .cells #[.int .i64 0, .int .u64 0] 74 (0, 0)) (zb BK330) hb)
    replace HB := zK (below_step (zo HB) hb)
    (try clear hb)
    (try clear hb2)
    (try clear hk)
    (try clear hi)
    refine hK.out _ _ ⟨(blk_cell BK321.out 0).trans rfl, (blk_cell BK321.out 1).trans rfl, (blk_cell BK321.out 2).trans rfl, (blk_cell BK325.out 0).trans rfl, (blk_cell BK325.out 1).trans rfl⟩ (fun hHeld => ?_)
    clear hK K
    refine norm_ (a' := ?_) ?_ ?_
    rotate_left
    ·show Act.put _ (some 22) _ = _
     simp only [Act.put, List.setIfInBounds_toArray, List.set_cons_zero, List.set_cons_succ, i64_w, i32_w]
     rfl
    refine one_ (i := 5) (N := some 23) #[true, true, true, true, true, true, true, false] rfl rfl (one_of HT_.out (by kernel_rfl)) (by decide) (fun K hK => ?_)
    refine goes_ Try.func65 (by kernel_rfl) rfl #[.agg #[.int .i64 a0_0, .int .u64 a0_1], .agg #[.int .i64 t326, .int .u64 t327]] (by rfl) rfl rfl (by (try simp only [List.map_toArray, List.map_cons, List.map_nil]); first | done | rfl | (simp only [List.length_drop, List.length_take]; rfl)) ?_
    with_reducible refine (sequiturref01_Plus.calls a0_0 a0_1 t326 t327 t328 t329 _ A6.out).mono ?_
    rintro e w23 ⟨rfl, hb⟩
    refine ⟨_, rfl, ?_⟩
    replace BK321 := zK (blk_below (g := gb321) (o := .cells #[.int .i64 a0_0, .int .u64 a0_1, .int .u64 a0_2] 76 (0, 0)) (zb BK321) hb)
    replace BK322 := zK (blk_below (g := gb322) (o := .cells #[.int .i64 0, .int .u64 0, .int .u64 0] 76 (0, 0)) (zb BK322) hb)
    replace BK325 := zK (blk_below (g := gb325) (o := .cells #[.int .i64 t323, .int .u64 t324] 74 (0, 0)) (zb BK325) hb)
    replace BK330 := zK (blk_below (g := gb330) (o := .cells #[.int .i64 0, .int .u64 0] 74 (0, 0)) (zb BK330) hb)
    replace HB := zK (below_step (zo HB) hb)
    (try clear hb)
    (try clear hb2)
    (try clear hk)
    (try clear hi)
    refine hK.out _ _ ⟨(blk_cell BK321.out 0).trans rfl, (blk_cell BK321.out 1).trans rfl, (blk_cell BK321.out 2).trans rfl, (blk_cell BK325.out 0).trans rfl, (blk_cell BK325.out 1).trans rfl⟩ (fun hHeld => ?_)
    clear hK K
    refine norm_ (a' := ?_) ?_ ?_
    rotate_left
    ·show Act.put _ (some 23) _ = _
     simp only [Act.put, List.setIfInBounds_toArray, List.set_cons_zero, List.set_cons_succ, i64_w, i32_w]
     rfl
    exact norm_ (by simp only [putAll, Act.put, List.setIfInBounds_toArray, List.set_cons_zero, List.set_cons_succ]) (hCont (gb330) _ ⟨hHeld, (zb BK321), (zb BK322), (zb BK325), (zb BK330), GW330.out, GE330.out, NB321_330.out, NB330_321.out, NB322_330.out, NB330_322.out, NB325_330.out, NB330_325.out, (zo HB)⟩)
  rintro gb330 w24 ⟨hS_, h0_, h1_, h2_, h3_, h4_, h5_, h6_, h7_, h8_, h9_, h10_, h11_, h12_⟩
  have n0_ : Aside0 (w24.heap[gb321]? = some (.cells #[.int .i64 a0_0, .int .u64 a0_1, .int .u64 a0_2] 76 (0, 0))) := ⟨h0_⟩
  have n1_ : Aside0 (w24.heap[gb322]? = some (.cells #[.int .i64 0, .int .u64 0, .int .u64 0] 76 (0, 0))) := ⟨h1_⟩
  have n2_ : Aside0 (w24.heap[gb325]? = some (.cells #[.int .i64 t323, .int .u64 t324] 74 (0, 0))) := ⟨h2_⟩
  have n3_ : Aside0 (w24.heap[gb330]? = some (.cells #[.int .i64 0, .int .u64 0] 74 (0, 0))) := ⟨h3_⟩
  have n4_ : Aside0 (w.heap.size ≤ gb330) := ⟨h4_⟩
  have n5_ : Aside0 (w.heap.size ≤ gb330) := ⟨h5_⟩
  have n6_ : Aside0 (gb321 ≠ gb330) := ⟨h6_⟩
  have n7_ : Aside0 (gb330 ≠ gb321) := ⟨h7_⟩
  have n8_ : Aside0 (gb322 ≠ gb330) := ⟨h8_⟩
  have n9_ : Aside0 (gb330 ≠ gb322) := ⟨h9_⟩
  have n10_ : Aside0 (gb325 ≠ gb330) := ⟨h10_⟩
  have n11_ : Aside0 (gb330 ≠ gb325) := ⟨h11_⟩
  have n12_ : Aside0 (Below w.heap.size w w24) := ⟨h12_⟩
  clear BK321 BK322 BK325 HB h0_ h1_ h2_ h3_ h4_ h5_ h6_ h7_ h8_ h9_ h10_ h11_ h12_
  have BK321 := n0_
  have BK322 := n1_
  have BK325 := n2_
  have BK330 := n3_
  have GW330 := n4_
  have GE330 := n5_
  have NB321_330 := n6_
  have NB330_321 := n7_
  have NB322_330 := n8_
  have NB330_322 := n9_
  have NB325_330 := n10_
  have NB330_325 := n11_
  have HB := n12_
  clear n0_ n1_ n2_ n3_ n4_ n5_ n6_ n7_ n8_ n9_ n10_ n11_ n12_
  have hHeld : w24.cell? ⟨gb321, 0, none⟩ = some (.int .i64 a0_0) ∧ w24.cell? ⟨gb321, 1, none⟩ = some (.int .u64 a0_1) ∧ w24.cell? ⟨gb321, 2, none⟩ = some (.int .u64 a0_2) ∧ w24.cell? ⟨gb325, 0, none⟩ = some (.int .i64 t323) ∧ w24.cell? ⟨gb325, 1, none⟩ = some (.int .u64 t324) := hS_
  refine norm_ (a' := ?_) ?_ ?_
  rotate_left
  ·simp only [putAll, Act.put, List.setIfInBounds_toArray, List.set_cons_zero, List.set_cons_succ]
   rfl
  refine one_ (i := 7) (N := none) #[true, true, true, true, true, true, true, true] rfl rfl (one_of HT_.out (by kernel_rfl)) (by decide) (fun K hK => ?_)
  have hs25 : w24.cell? ⟨gb330, 0, none⟩ = some (.int .i64 0) := (blk_cell BK330.out 0).trans rfl
  have hfs25 := blk_frozen BK330.out 0
  have hns25_0 := NB321_330.out
  have hns25_1 := NB322_330.out
  have hns25_2 := NB325_330.out
  have hms25_0 := NB330_321.out
  have hms25_1 := NB330_322.out
  have hms25_2 := NB330_325.out
  have hs26 : w24.cell? ⟨gb330, 1, none⟩ = some (.int .u64 0) := (blk_cell BK330.out 1).trans rfl
  have hfs26 := blk_frozen BK330.out 1
  have hns26_0 := NB321_330.out
  have hns26_1 := NB322_330.out
  have hns26_2 := NB325_330.out
  have hms26_0 := NB330_321.out
  have hms26_1 := NB330_322.out
  have hms26_2 := NB330_325.out
  refine skip_ (w1 := ?_) (by rfl) rfl ?_ ?_
  rotate_left
  ·go_simp
   rfl
  refine hK.out _ _ ⟨((cell_far (p := ⟨gb330, _, none⟩) NB321_330.out _).trans (((cell_far (p := ⟨gb330, _, none⟩) NB321_330.out _).trans (hHeld.1)))), ((cell_far (p := ⟨gb330, _, none⟩) NB321_330.out _).trans (((cell_far (p := ⟨gb330, _, none⟩) NB321_330.out _).trans (hHeld.2.1)))), ((cell_far (p := ⟨gb330, _, none⟩) NB321_330.out _).trans (((cell_far (p := ⟨gb330, _, none⟩) NB321_330.out _).trans (hHeld.2.2.1)))), ((cell_far (p := ⟨gb330, _, none⟩) NB325_330.out _).trans (((cell_far (p := ⟨gb330, _, none⟩) NB325_330.out _).trans (hHeld.2.2.2.1)))), ((cell_far (p := ⟨gb330, _, none⟩) NB325_330.out _).trans (((cell_far (p := ⟨gb330, _, none⟩) NB325_330.out _).trans (hHeld.2.2.2.2))))⟩ (fun hHeld => ?_)
  clear hK K
  refine done_ (done_of HT_.out (by kernel_rfl)) ?_
  have hnb27 := NB321_330.out
  have hnc27 := NB330_321.out
  have hcz28_0 : w24.cell? ⟨gb321, 0, none⟩ = some (.int .i64 a0_0) := (blk_cell BK321.out 0).trans rfl
  have hcz28_1 : w24.cell? ⟨gb321, 1, none⟩ = some (.int .u64 a0_1) := (blk_cell BK321.out 1).trans rfl
  have hcz28_2 : w24.cell? ⟨gb321, 2, none⟩ = some (.int .u64 a0_2) := (blk_cell BK321.out 2).trans rfl
  have hfz28_0 := blk_frozen BK321.out 0
  have hfz28_1 := blk_frozen BK321.out 1
  have hfz28_2 := blk_frozen BK321.out 2
  try go_wp2
  have n0_ : Aside0 (((w24.setCell ⟨gb330, 0, none⟩ (.int .i64 t328)).setCell ⟨gb330, 1, none⟩ (.int .u64 t329)).heap[gb321]? = some (.cells #[.int .i64 a0_0, .int .u64 a0_1, .int .u64 a0_2] 76 (0, 0))) := ⟨zb BK321⟩
  have n1_ : Aside0 (((w24.setCell ⟨gb330, 0, none⟩ (.int .i64 t328)).setCell ⟨gb330, 1, none⟩ (.int .u64 t329)).heap[gb322]? = some (.cells #[.int .i64 0, .int .u64 0, .int .u64 0] 76 (0, 0))) := ⟨zb BK322⟩
  have n2_ : Aside0 (((w24.setCell ⟨gb330, 0, none⟩ (.int .i64 t328)).setCell ⟨gb330, 1, none⟩ (.int .u64 t329)).heap[gb325]? = some (.cells #[.int .i64 t323, .int .u64 t324] 74 (0, 0))) := ⟨zb BK325⟩
  have n3_ : Aside0 (((w24.setCell ⟨gb330, 0, none⟩ (.int .i64 t328)).setCell ⟨gb330, 1, none⟩ (.int .u64 t329)).heap[gb330]? = some (.cells #[.int .i64 t328, .int .u64 t329] 74 (0, 0))) := ⟨by refine zM ?_; refine blk_put (cs := #[.int .i64 t328, .int .u64 0]) ?_ 1 _ rfl; refine zM ?_; refine blk_put (cs := #[.int .i64 0, .int .u64 0]) ?_ 0 _ rfl; refine zM ?_; exact BK330.out⟩
  have n4_ : Aside0 (Below w.heap.size w ((w24.setCell ⟨gb330, 0, none⟩ (.int .i64 t328)).setCell ⟨gb330, 1, none⟩ (.int .u64 t329))) := ⟨zo HB⟩
  (try clear BK321)
  (try clear BK322)
  (try clear BK325)
  (try clear BK330)
  (try clear HB)
  generalize ((w24.setCell ⟨gb330, 0, none⟩ (.int .i64 t328)).setCell ⟨gb330, 1, none⟩ (.int .u64 t329)) = w29 at n0_ n1_ n2_ n3_ n4_ ⊢
  have BK321 := n0_
  have BK322 := n1_
  have BK325 := n2_
  have BK330 := n3_
  have HB := n4_
  clear n0_ n1_ n2_ n3_ n4_
  replace BK321 := zK (zD BK321.out)
  replace BK322 := zK (zD BK322.out)
  replace BK325 := zK (zD BK325.out)
  replace BK330 := zK (zD BK330.out)
  replace HB := zK (yD HB.out)
  refine start_ (n := 4) (S := fun w' => w'.cell? ⟨gb330, 0, none⟩ = some (.int .i64 t328) ∧ w'.cell? ⟨gb330, 1, none⟩ = some (.int .u64 t329)) (ds := [3]) #[false, false, false, false] (by kernel_rfl) rfl rfl ⟨(blk_cell BK330.out 0).trans rfl, (blk_cell BK330.out 1).trans rfl⟩ (fun hHeld => ?_)
  generalize w29.drew = w30 at BK321 BK322 BK325 BK330 HB hHeld ⊢
  refine take_ (i := 0) (N := some 28) (v := ?_) (a' := ?_) #[true, false, false, false] rfl rfl (by kernel_rfl) (fun _ _ _ h => h) (Or.inl ⟨by rfl, ?_⟩) hHeld ?_ ?_
  rotate_left
  ·rintro w' ⟨s0, s1⟩
   go_simp
   with_reducible rfl
  rotate_left
  ·simp only [Act.put, List.setIfInBounds_toArray, List.set_cons_zero, List.set_cons_succ, i64_w, i32_w]
   rfl
  refine one_ (i := 1) (N := some 29) #[true, true, false, false] rfl rfl (by kernel_rfl) (by decide) (fun K hK => ?_)
  refine goes_ Try.func66 (by kernel_rfl) rfl #[.int .i64 1] (by rfl) rfl rfl (by (try simp only [List.map_toArray, List.map_cons, List.map_nil]); first | done | rfl | (simp only [List.length_drop, List.length_take]; rfl)) ?_
  with_reducible refine (sequiturref01_Of.calls 1 t331 t332 _ A8.out).mono ?_
  rintro e w31 ⟨rfl, hb⟩
  refine ⟨_, rfl, ?_⟩
  replace BK321 := zK (blk_below (g := gb321) (o := .cells #[.int .i64 a0_0, .int .u64 a0_1, .int .u64 a0_2] 76 (0, 0)) (zb BK321) hb)
  replace BK322 := zK (blk_below (g := gb322) (o := .cells #[.int .i64 0, .int .u64 0, .int .u64 0] 76 (0, 0)) (zb BK322) hb)
  replace BK325 := zK (blk_below (g := gb325) (o := .cells #[.int .i64 t323, .int .u64 t324] 74 (0, 0)) (zb BK325) hb)
  replace BK330 := zK (blk_below (g := gb330) (o := .cells #[.int .i64 t328, .int .u64 t329] 74 (0, 0)) (zb BK330) hb)
  replace HB := zK (below_step (zo HB) hb)
  (try clear hb)
  (try clear hb2)
  (try clear hk)
  (try clear hi)
  refine hK.out _ _ ⟨(blk_cell BK330.out 0).trans rfl, (blk_cell BK330.out 1).trans rfl⟩ (fun hHeld => ?_)
  clear hK K
  refine norm_ (a' := ?_) ?_ ?_
  rotate_left
  ·show Act.put _ (some 29) _ = _
   simp only [Act.put, List.setIfInBounds_toArray, List.set_cons_zero, List.set_cons_succ, i64_w, i32_w]
   rfl
  refine one_ (i := 2) (N := some 30) #[true, true, true, false] rfl rfl (by kernel_rfl) (by decide) (fun K hK => ?_)
  refine goes_ Try.func65 (by kernel_rfl) rfl #[.agg #[.int .i64 t328, .int .u64 t329], .agg #[.int .i64 t331, .int .u64 t332]] (by rfl) rfl rfl (by (try simp only [List.map_toArray, List.map_cons, List.map_nil]); first | done | rfl | (simp only [List.length_drop, List.length_take]; rfl)) ?_
  with_reducible refine (sequiturref01_Plus.calls t328 t329 t331 t332 t333 t334 _ A9.out).mono ?_
  rintro e w32 ⟨rfl, hb⟩
  refine ⟨_, rfl, ?_⟩
  replace BK321 := zK (blk_below (g := gb321) (o := .cells #[.int .i64 a0_0, .int .u64 a0_1, .int .u64 a0_2] 76 (0, 0)) (zb BK321) hb)
  replace BK322 := zK (blk_below (g := gb322) (o := .cells #[.int .i64 0, .int .u64 0, .int .u64 0] 76 (0, 0)) (zb BK322) hb)
  replace BK325 := zK (blk_below (g := gb325) (o := .cells #[.int .i64 t323, .int .u64 t324] 74 (0, 0)) (zb BK325) hb)
  replace BK330 := zK (blk_below (g := gb330) (o := .cells #[.int .i64 t328, .int .u64 t329] 74 (0, 0)) (zb BK330) hb)
  replace HB := zK (below_step (zo HB) hb)
  (try clear hb)
  (try clear hb2)
  (try clear hk)
  (try clear hi)
  refine hK.out _ _ ⟨(blk_cell BK330.out 0).trans rfl, (blk_cell BK330.out 1).trans rfl⟩ (fun hHeld => ?_)
  clear hK K
  refine norm_ (a' := ?_) ?_ ?_
  rotate_left
  ·show Act.put _ (some 30) _ = _
   simp only [Act.put, List.setIfInBounds_toArray, List.set_cons_zero, List.set_cons_succ, i64_w, i32_w]
   rfl
  refine last_ (i := 3) (N := none) #[true, true, true, true] rfl rfl (by kernel_rfl) (by decide) (fun K hK => ?_)
  have hs33 : w32.cell? ⟨gb330, 0, none⟩ = some (.int .i64 t328) := (blk_cell BK330.out 0).trans rfl
  have hfs33 := blk_frozen BK330.out 0
  have hns33_0 := NB321_330.out
  have hns33_1 := NB322_330.out
  have hns33_2 := NB325_330.out
  have hms33_0 := NB330_321.out
  have hms33_1 := NB330_322.out
  have hms33_2 := NB330_325.out
  have hs34 : w32.cell? ⟨gb330, 1, none⟩ = some (.int .u64 t329) := (blk_cell BK330.out 1).trans rfl
  have hfs34 := blk_frozen BK330.out 1
  have hns34_0 := NB321_330.out
  have hns34_1 := NB322_330.out
  have hns34_2 := NB325_330.out
  have hms34_0 := NB330_321.out
  have hms34_1 := NB330_322.out
  have hms34_2 := NB330_325.out
  refine skip_ (w1 := ?_) (by rfl) rfl ?_ ?_
  rotate_left
  ·go_simp
   rfl
  refine hK.out _ _ ?_
  clear hK K
  refine done_ (by kernel_rfl) ?_
  have hnb35 := NB330_322.out
  have hnc35 := NB322_330.out
  have hnb36 := NB330_325.out
  have hnc36 := NB325_330.out
  have hcz37_0 : w32.cell? ⟨gb330, 0, none⟩ = some (.int .i64 t328) := (blk_cell BK330.out 0).trans rfl
  have hcz37_1 : w32.cell? ⟨gb330, 1, none⟩ = some (.int .u64 t329) := (blk_cell BK330.out 1).trans rfl
  have hfz37_0 := blk_frozen BK330.out 0
  have hfz37_1 := blk_frozen BK330.out 1
  have hcz38_0 : w32.cell? ⟨gb322, 0, none⟩ = some (.int .i64 0) := (blk_cell BK322.out 0).trans rfl
  have hcz38_1 : w32.cell? ⟨gb322, 1, none⟩ = some (.int .u64 0) := (blk_cell BK322.out 1).trans rfl
  have hcz38_2 : w32.cell? ⟨gb322, 2, none⟩ = some (.int .u64 0) := (blk_cell BK322.out 2).trans rfl
  have hfz38_0 := blk_frozen BK322.out 0
  have hfz38_1 := blk_frozen BK322.out 1
  have hfz38_2 := blk_frozen BK322.out 2
  try go_wp2
  refine bodyPost_ret (results_cell_row rfl _ _ gb322 76 #[.int .i64 t333, .int .u64 t334, .int .u64 (IntKind.u64.wrap (a0_2 + t324))] (0, 0) _ rfl (by refine zM ?_; refine blk_put (cs := #[.int .i64 t333, .int .u64 t334, .int .u64 0]) ?_ 2 _ rfl; refine zM ?_; refine blk_put (cs := #[.int .i64 t333, .int .u64 0, .int .u64 0]) ?_ 1 _ rfl; refine zM ?_; refine blk_put (cs := #[.int .i64 0, .int .u64 0, .int .u64 0]) ?_ 0 _ rfl; refine zM ?_; refine blk_far ?_ NB322_330.out _; refine zM ?_; refine blk_far ?_ NB322_330.out _; refine zM ?_; exact BK322.out) Try.underlying76 rfl (by kernel_rfl)) rfl ?_
  exact ⟨by first | rfl | (simp [errW_none, errW_some] <;> rfl) | (simp [*, errW_none, errW_some] <;> rfl), zo HB⟩
 ·rw [if_neg c7] at H
  have c7b0 : decide ((IntKind.u64.wrap (a0_2 + t324)) < a0_2) = false := decide_eq_false c7
  clear c7
  simp only [Option.some.injEq, Prod.mk.injEq] at H
  obtain ⟨rfl, rfl, rfl⟩ := H
  go_enter Try.func51, Try.ntmps51
  try go_wp2_with (first | ((with_reducible refine gate_dst (N := 3) rfl ?_); refine box_event ?hg (N := 3) ?hd (cs := #[.int .i64 a0_0, .int .u64 a0_1, .int .u64 a0_2]) (t := 76) ?hr ?_; (case hd => rfl); (case hg => rfl); (case hr => first | (go_simp; done) | (go_simp; rfl)); intro gb321 hg w39 hbox hb; have BK321 := zK (hbox); have GW321 := zK ((by rw [hg]; exact (below_size (zo HB)) : w.heap.size ≤ gb321)); have GE321 := zK ((by rw [hg]; exact (below_size (zo HB)) : w.heap.size ≤ gb321)); replace HB := zK (below_step (zo HB) hb); clear hb hbox hg) | ((with_reducible refine gate_dst (N := 6) rfl ?_); refine box_event ?hg (N := 6) ?hd (cs := #[.int .i64 0, .int .u64 0, .int .u64 0]) (t := 76) ?hr ?_; (case hd => rfl); (case hg => rfl); (case hr => first | (go_simp; done) | (go_simp; rfl)); intro gb322 hg w40 hbox hb; have BK322 := zK (hbox); have GW322 := zK ((by rw [hg]; exact (below_size (zo HB)) : w.heap.size ≤ gb322)); have GE322 := zK ((by rw [hg]; exact (below_size (zo HB)) : w.heap.size ≤ gb322)); replace HB := zK (below_step (zo HB) hb); have NB321_322 := zK ((by rw [hg]; exact Nat.ne_of_lt (blk_lt (g := gb321) (o := .cells #[.int .i64 a0_0, .int .u64 a0_1, .int .u64 a0_2] 76 (0, 0)) (zb BK321)) : gb321 ≠ gb322)); have NB322_321 := zK ((by rw [hg]; exact Nat.ne_of_gt (blk_lt (g := gb321) (o := .cells #[.int .i64 a0_0, .int .u64 a0_1, .int .u64 a0_2] 76 (0, 0)) (zb BK321)) : gb322 ≠ gb321)); replace BK321 := zK (blk_below (g := gb321) (o := .cells #[.int .i64 a0_0, .int .u64 a0_1, .int .u64 a0_2] 76 (0, 0)) (zb BK321) hb); clear hb hbox hg) | ((with_reducible refine zC (f := 64) rfl ?_); refine goesL_ (some 12) rfl rfl Try.func64 (by kernel_rfl) rfl #[.int .i64 a1, .int .i64 a2] rfl (by (try simp only [List.map_toArray, List.map_cons, List.map_nil]); first | done | rfl | (simp only [List.length_drop, List.length_take]; rfl)) ?_; (with_reducible refine (sequiturref01_Times.calls k a1 a2 t323 t324 _ A4.out).mono ?_); rintro e w41 ⟨rfl, hb⟩; refine ⟨_, rfl, ?_⟩; replace BK321 := zK (blk_below (g := gb321) (o := .cells #[.int .i64 a0_0, .int .u64 a0_1, .int .u64 a0_2] 76 (0, 0)) (zb BK321) hb); replace BK322 := zK (blk_below (g := gb322) (o := .cells #[.int .i64 0, .int .u64 0, .int .u64 0] 76 (0, 0)) (zb BK322) hb); replace HB := zK (below_step (zo HB) hb); (try clear hb); (try clear hb2); (try clear hk); (try clear hi)) | ((with_reducible refine gate_dst (N := 7) rfl ?_); refine box_event ?hg (N := 7) ?hd (cs := #[.int .i64 0, .int .u64 0]) (t := 74) ?hr ?_; (case hd => rfl); (case hg => rfl); (case hr => first | (go_simp; done) | (go_simp; rfl)); intro gb325 hg w42 hbox hb; have BK325 := zK (hbox); have GW325 := zK ((by rw [hg]; exact (below_size (zo HB)) : w.heap.size ≤ gb325)); have GE325 := zK ((by rw [hg]; exact (below_size (zo HB)) : w.heap.size ≤ gb325)); replace HB := zK (below_step (zo HB) hb); have NB321_325 := zK ((by rw [hg]; exact Nat.ne_of_lt (blk_lt (g := gb321) (o := .cells #[.int .i64 a0_0, .int .u64 a0_1, .int .u64 a0_2] 76 (0, 0)) (zb BK321)) : gb321 ≠ gb325)); have NB325_321 := zK ((by rw [hg]; exact Nat.ne_of_gt (blk_lt (g := gb321) (o := .cells #[.int .i64 a0_0, .int .u64 a0_1, .int .u64 a0_2] 76 (0, 0)) (zb BK321)) : gb325 ≠ gb321)); replace BK321 := zK (blk_below (g := gb321) (o := .cells #[.int .i64 a0_0, .int .u64 a0_1, .int .u64 a0_2] 76 (0, 0)) (zb BK321) hb); have NB322_325 := zK ((by rw [hg]; exact Nat.ne_of_lt (blk_lt (g := gb322) (o := .cells #[.int .i64 0, .int .u64 0, .int .u64 0] 76 (0, 0)) (zb BK322)) : gb322 ≠ gb325)); have NB325_322 := zK ((by rw [hg]; exact Nat.ne_of_gt (blk_lt (g := gb322) (o := .cells #[.int .i64 0, .int .u64 0, .int .u64 0] 76 (0, 0)) (zb BK322)) : gb325 ≠ gb322)); replace BK322 := zK (blk_below (g := gb322) (o := .cells #[.int .i64 0, .int .u64 0, .int .u64 0] 76 (0, 0)) (zb BK322) hb); clear hb hbox hg; have hnb43 := NB325_321.out; have hnc43 := NB321_325.out; have hnb44 := NB325_322.out; have hnc44 := NB322_325.out; have hcz45_0 : w42.cell? ⟨gb325, 0, none⟩ = some (.int .i64 0) := (blk_cell BK325.out 0).trans rfl; have hcz45_1 : w42.cell? ⟨gb325, 1, none⟩ = some (.int .u64 0) := (blk_cell BK325.out 1).trans rfl; have hfz45_0 := blk_frozen BK325.out 0; have hfz45_1 := blk_frozen BK325.out 1; have hnb46 := NB321_322.out; have hnc46 := NB322_321.out; have hcz47_0 : w42.cell? ⟨gb321, 0, none⟩ = some (.int .i64 a0_0) := (blk_cell BK321.out 0).trans rfl; have hcz47_1 : w42.cell? ⟨gb321, 1, none⟩ = some (.int .u64 a0_1) := (blk_cell BK321.out 1).trans rfl; have hcz47_2 : w42.cell? ⟨gb321, 2, none⟩ = some (.int .u64 a0_2) := (blk_cell BK321.out 2).trans rfl; have hfz47_0 := blk_frozen BK321.out 0; have hfz47_1 := blk_frozen BK321.out 1; have hfz47_2 := blk_frozen BK321.out 2))
  have n0_ : Aside0 (((w42.setCell ⟨gb325, 0, none⟩ (.int .i64 t323)).setCell ⟨gb325, 1, none⟩ (.int .u64 t324)).heap[gb321]? = some (.cells #[.int .i64 a0_0, .int .u64 a0_1, .int .u64 a0_2] 76 (0, 0))) := ⟨zb BK321⟩
  have n1_ : Aside0 (((w42.setCell ⟨gb325, 0, none⟩ (.int .i64 t323)).setCell ⟨gb325, 1, none⟩ (.int .u64 t324)).heap[gb322]? = some (.cells #[.int .i64 0, .int .u64 0, .int .u64 0] 76 (0, 0))) := ⟨zb BK322⟩
  have n2_ : Aside0 (((w42.setCell ⟨gb325, 0, none⟩ (.int .i64 t323)).setCell ⟨gb325, 1, none⟩ (.int .u64 t324)).heap[gb325]? = some (.cells #[.int .i64 t323, .int .u64 t324] 74 (0, 0))) := ⟨by refine zM ?_; refine blk_put (cs := #[.int .i64 t323, .int .u64 0]) ?_ 1 _ rfl; refine zM ?_; refine blk_put (cs := #[.int .i64 0, .int .u64 0]) ?_ 0 _ rfl; refine zM ?_; exact BK325.out⟩
  have n3_ : Aside0 (Below w.heap.size w ((w42.setCell ⟨gb325, 0, none⟩ (.int .i64 t323)).setCell ⟨gb325, 1, none⟩ (.int .u64 t324))) := ⟨zo HB⟩
  (try clear BK321)
  (try clear BK322)
  (try clear BK325)
  (try clear HB)
  generalize ((w42.setCell ⟨gb325, 0, none⟩ (.int .i64 t323)).setCell ⟨gb325, 1, none⟩ (.int .u64 t324)) = w48 at n0_ n1_ n2_ n3_ ⊢
  have BK321 := n0_
  have BK322 := n1_
  have BK325 := n2_
  have HB := n3_
  clear n0_ n1_ n2_ n3_
  replace BK321 := zK (zD BK321.out)
  replace BK322 := zK (zD BK322.out)
  replace BK325 := zK (zD BK325.out)
  replace HB := zK (yD HB.out)
  refine start_ (n := 8) (S := fun w' => w'.cell? ⟨gb321, 0, none⟩ = some (.int .i64 a0_0) ∧ w'.cell? ⟨gb321, 1, none⟩ = some (.int .u64 a0_1) ∧ w'.cell? ⟨gb321, 2, none⟩ = some (.int .u64 a0_2) ∧ w'.cell? ⟨gb325, 0, none⟩ = some (.int .i64 t323) ∧ w'.cell? ⟨gb325, 1, none⟩ = some (.int .u64 t324)) (ds := []) #[false, false, false, false, false, false, false, false] (by kernel_rfl) rfl rfl ⟨(blk_cell BK321.out 0).trans rfl, (blk_cell BK321.out 1).trans rfl, (blk_cell BK321.out 2).trans rfl, (blk_cell BK325.out 0).trans rfl, (blk_cell BK325.out 1).trans rfl⟩ (fun hHeld => ?_); refine with_tabW sequiturref28_More.tab3 sequiturref28_More.bits3 (fun HT_ HW_ => ?_)
  generalize w48.drew = w49 at BK321 BK322 BK325 HB hHeld ⊢
  refine pure_ (i := 0) (N := some 18) (v := ?_) (a' := ?_) #[true, false, false, false, false, false, false, false] rfl rfl (any_of HT_.out (by kernel_rfl)) (fun _ _ _ h => h) (Or.inl ⟨by rfl, ?_⟩) ?_ ?_
  rotate_left
  ·intro w'
   go_simp
   with_reducible rfl
  rotate_left
  ·simp only [Act.put, List.setIfInBounds_toArray, List.set_cons_zero, List.set_cons_succ, i64_w, i32_w]
   rfl
  refine pure_ (i := 2) (N := some 20) (v := ?_) (a' := ?_) #[true, false, true, false, false, false, false, false] rfl rfl (any_of HT_.out (by kernel_rfl)) (fun _ _ _ h => h) (Or.inl ⟨by rfl, ?_⟩) ?_ ?_
  rotate_left
  ·intro w'
   go_simp
   with_reducible rfl
  rotate_left
  ·simp only [Act.put, List.setIfInBounds_toArray, List.set_cons_zero, List.set_cons_succ, i64_w, i32_w]
   rfl
  refine take_ (i := 1) (N := some 19) (v := ?_) (a' := ?_) #[true, true, true, false, false, false, false, false] rfl rfl (take_ofW HT_.out HW_.out (by kernel_rfl)) (fun _ _ _ h => h) (Or.inl ⟨by rfl, ?_⟩) hHeld ?_ ?_
  rotate_left
  ·rintro w' ⟨s0, s1, s2, s3, s4⟩
   go_simp
   with_reducible rfl
  rotate_left
  ·simp only [Act.put, List.setIfInBounds_toArray, List.set_cons_zero, List.set_cons_succ, i64_w, i32_w]
   rfl
  refine take_ (i := 3) (N := some 21) (v := ?_) (a' := ?_) #[true, true, true, true, false, false, false, false] rfl rfl (take_ofW HT_.out HW_.out (by kernel_rfl)) (fun _ _ _ h => h) (Or.inl ⟨by rfl, ?_⟩) hHeld ?_ ?_
  rotate_left
  ·rintro w' ⟨s0, s1, s2, s3, s4⟩
   go_simp
   with_reducible rfl
  rotate_left
  ·simp only [Act.put, List.setIfInBounds_toArray, List.set_cons_zero, List.set_cons_succ, i64_w, i32_w]
   rfl
  refine join_ (σ := Nat) 1 #[true, true, true, true, true, true, true, false] (fun s_ => [(22, .agg #[.int .i64 t326, .int .u64 t327]), (23, .agg #[.int .i64 t328, .int .u64 t329]), (9, .pointer (some ⟨s_, 0, none⟩))]) (fun s_ w' => (w'.cell? ⟨gb321, 0, none⟩ = some (.int .i64 a0_0) ∧ w'.cell? ⟨gb321, 1, none⟩ = some (.int .u64 a0_1) ∧ w'.cell? ⟨gb321, 2, none⟩ = some (.int .u64 a0_2) ∧ w'.cell? ⟨gb325, 0, none⟩ = some (.int .i64 t323) ∧ w'.cell? ⟨gb325, 1, none⟩ = some (.int .u64 t324)) ∧ (w'.heap[gb321]? = some (.cells #[.int .i64 a0_0, .int .u64 a0_1, .int .u64 a0_2] 76 (0, 0))) ∧ (w'.heap[gb322]? = some (.cells #[.int .i64 0, .int .u64 0, .int .u64 0] 76 (0, 0))) ∧ (w'.heap[gb325]? = some (.cells #[.int .i64 t323, .int .u64 t324] 74 (0, 0))) ∧ (w'.heap[s_]? = some (.cells #[.int .i64 0, .int .u64 0] 74 (0, 0))) ∧ (w.heap.size ≤ s_) ∧ (w.heap.size ≤ s_) ∧ (gb321 ≠ s_) ∧ (s_ ≠ gb321) ∧ (gb322 ≠ s_) ∧ (s_ ≠ gb322) ∧ (gb325 ≠ s_) ∧ (s_ ≠ gb325) ∧ (Below w.heap.size w w')) ?_ ?_
  rotate_left
  ·intro hCont
   refine two_ (i := 4) (j := 6) (Ni := some 22) (Nj := some 9) #[true, true, true, true, true, false, false, false] #[true, true, true, true, false, false, true, false] rfl rfl rfl rfl (two_of HT_.out (by kernel_rfl)) (by decide) (by decide) (fun K hK => ?_) (fun K hK => ?_)
   ·skip
    refine goes_ Try.func66 (by kernel_rfl) rfl #[.int .i64 t323] (by rfl) rfl rfl (by (try simp only [List.map_toArray, List.map_cons, List.map_nil]); first | done | rfl | (simp only [List.length_drop, List.length_take]; rfl)) ?_
    with_reducible refine (sequiturref01_Of.calls t323 t326 t327 _ A5.out).mono ?_
    rintro e w50 ⟨rfl, hb⟩
    refine ⟨_, rfl, ?_⟩
    replace BK321 := zK (blk_below (g := gb321) (o := .cells #[.int .i64 a0_0, .int .u64 a0_1, .int .u64 a0_2] 76 (0, 0)) (zb BK321) hb)
    replace BK322 := zK (blk_below (g := gb322) (o := .cells #[.int .i64 0, .int .u64 0, .int .u64 0] 76 (0, 0)) (zb BK322) hb)
    replace BK325 := zK (blk_below (g := gb325) (o := .cells #[.int .i64 t323, .int .u64 t324] 74 (0, 0)) (zb BK325) hb)
    replace HB := zK (below_step (zo HB) hb)
    (try clear hb)
    (try clear hb2)
    (try clear hk)
    (try clear hi)
    refine hK.out _ _ ⟨(blk_cell BK321.out 0).trans rfl, (blk_cell BK321.out 1).trans rfl, (blk_cell BK321.out 2).trans rfl, (blk_cell BK325.out 0).trans rfl, (blk_cell BK325.out 1).trans rfl⟩ (fun hHeld => ?_)
    clear hK K
    refine norm_ (a' := ?_) ?_ ?_
    rotate_left
    ·show Act.put _ (some 22) _ = _
     simp only [Act.put, List.setIfInBounds_toArray, List.set_cons_zero, List.set_cons_succ, i64_w, i32_w]
     rfl
    refine two_ (i := 5) (j := 6) (Ni := some 23) (Nj := some 9) #[true, true, true, true, true, true, false, false] #[true, true, true, true, true, false, true, false] rfl rfl rfl rfl (two_of HT_.out (by kernel_rfl)) (by decide) (by decide) (fun K hK => ?_) (fun K hK => ?_)
    ·skip
     refine goes_ Try.func65 (by kernel_rfl) rfl #[.agg #[.int .i64 a0_0, .int .u64 a0_1], .agg #[.int .i64 t326, .int .u64 t327]] (by rfl) rfl rfl (by (try simp only [List.map_toArray, List.map_cons, List.map_nil]); first | done | rfl | (simp only [List.length_drop, List.length_take]; rfl)) ?_
     with_reducible refine (sequiturref01_Plus.calls a0_0 a0_1 t326 t327 t328 t329 _ A6.out).mono ?_
     rintro e w51 ⟨rfl, hb⟩
     refine ⟨_, rfl, ?_⟩
     replace BK321 := zK (blk_below (g := gb321) (o := .cells #[.int .i64 a0_0, .int .u64 a0_1, .int .u64 a0_2] 76 (0, 0)) (zb BK321) hb)
     replace BK322 := zK (blk_below (g := gb322) (o := .cells #[.int .i64 0, .int .u64 0, .int .u64 0] 76 (0, 0)) (zb BK322) hb)
     replace BK325 := zK (blk_below (g := gb325) (o := .cells #[.int .i64 t323, .int .u64 t324] 74 (0, 0)) (zb BK325) hb)
     replace HB := zK (below_step (zo HB) hb)
     (try clear hb)
     (try clear hb2)
     (try clear hk)
     (try clear hi)
     refine hK.out _ _ ⟨(blk_cell BK321.out 0).trans rfl, (blk_cell BK321.out 1).trans rfl, (blk_cell BK321.out 2).trans rfl, (blk_cell BK325.out 0).trans rfl, (blk_cell BK325.out 1).trans rfl⟩ (fun hHeld => ?_)
     clear hK K
     refine norm_ (a' := ?_) ?_ ?_
     rotate_left
     ·show Act.put _ (some 23) _ = _
      simp only [Act.put, List.setIfInBounds_toArray, List.set_cons_zero, List.set_cons_succ, i64_w, i32_w]
      rfl
     refine one_ (i := 6) (N := some 9) #[true, true, true, true, true, true, true, false] rfl rfl (one_of HT_.out (by kernel_rfl)) (by decide) (fun K hK => ?_)
     refine box_step ?hg (N := 9) ?hd (cs := #[.int .i64 0, .int .u64 0]) (t := 74) ?hr ?_; (case hd => rfl); (case hg => rfl); (case hr => first | (go_simp; done) | (go_simp; rfl))
     intro gb330 hg w52 hbox hb
     have BK330 := zK (hbox)
     have GW330 := zK ((by rw [hg]; exact (below_size (zo HB)) : w.heap.size ≤ gb330))
     have GE330 := zK ((by rw [hg]; exact (below_size (zo HB)) : w.heap.size ≤ gb330))
     replace HB := zK (below_step (zo HB) hb)
     have NB321_330 := zK ((by rw [hg]; exact Nat.ne_of_lt (blk_lt (g := gb321) (o := .cells #[.int .i64 a0_0, .int .u64 a0_1, .int .u64 a0_2] 76 (0, 0)) (zb BK321)) : gb321 ≠ gb330))
     have NB330_321 := zK ((by rw [hg]; exact Nat.ne_of_gt (blk_lt (g := gb321) (o := .cells #[.int .i64 a0_0, .int .u64 a0_1, .int .u64 a0_2] 76 (0, 0)) (zb BK321)) : gb330 ≠ gb321))
     replace BK321 := zK (blk_below (g := gb321) (o := .cells #[.int .i64 a0_0, .int .u64 a0_1, .int .u64 a0_2] 76 (0, 0)) (zb BK321) hb)
     have NB322_330 := zK ((by rw [hg]; exact Nat.ne_of_lt (blk_lt (g := gb322) (o := .cells #[.int .i64 0, .int .u64 0, .int .u64 0] 76 (0, 0)) (zb BK322)) : gb322 ≠ gb330))
     have NB330_322 := zK ((by rw [hg]; exact Nat.ne_of_gt (blk_lt (g := gb322) (o := .cells #[.int .i64 0, .int .u64 0, .int .u64 0] 76 (0, 0)) (zb BK322)) : gb330 ≠ gb322))
     replace BK322 := zK (blk_below (g := gb322) (o := .cells #[.int .i64 0, .int .u64 0, .int .u64 0] 76 (0, 0)) (zb BK322) hb)
     have NB325_330 := zK ((by rw [hg]; exact Nat.ne_of_lt (blk_lt (g := gb325) (o := .cells #[.int .i64 t323, .int .u64 t324] 74 (0, 0)) (zb BK325)) : gb325 ≠ gb330))
     have NB330_325 := zK ((by rw [hg]; exact Nat.ne_of_gt (blk_lt (g := gb325) (o := .cells #[.int .i64 t323, .int .u64 t324] 74 (0, 0)) (zb BK325)) : gb330 ≠ gb325))
     replace BK325 := zK (blk_below (g := gb325) (o := .cells #[.int .i64 t323, .int .u64 t324] 74 (0, 0)) (zb BK325) hb)
     clear hb hbox hg
     refine hK.out _ _ ⟨(blk_cell BK321.out 0).trans rfl, (blk_cell BK321.out 1).trans rfl, (blk_cell BK321.out 2).trans rfl, (blk_cell BK325.out 0).trans rfl, (blk_cell BK325.out 1).trans rfl⟩ (fun hHeld => ?_)
     clear hK K
     refine norm_ (a' := ?_) ?_ ?_
     rotate_left
     ·show Act.put _ (some 9) _ = _
      simp only [Act.put, List.setIfInBounds_toArray, List.set_cons_zero, List.set_cons_succ, i64_w, i32_w]
      rfl
     exact norm_ (by simp only [putAll, Act.put, List.setIfInBounds_toArray, List.set_cons_zero, List.set_cons_succ]) (hCont (gb330) _ ⟨hHeld, (zb BK321), (zb BK322), (zb BK325), (zb BK330), GW330.out, GE330.out, NB321_330.out, NB330_321.out, NB322_330.out, NB330_322.out, NB325_330.out, NB330_325.out, (zo HB)⟩)
    ·skip
     refine box_step ?hg (N := 9) ?hd (cs := #[.int .i64 0, .int .u64 0]) (t := 74) ?hr ?_; (case hd => rfl); (case hg => rfl); (case hr => first | (go_simp; done) | (go_simp; rfl))
     intro gb330 hg w51 hbox hb
     have BK330 := zK (hbox)
     have GW330 := zK ((by rw [hg]; exact (below_size (zo HB)) : w.heap.size ≤ gb330))
     have GE330 := zK ((by rw [hg]; exact (below_size (zo HB)) : w.heap.size ≤ gb330))
     replace HB := zK (below_step (zo HB) hb)
     have NB321_330 := zK ((by rw [hg]; exact Nat.ne_of_lt (blk_lt (g := gb321) (o := .cells #[.int .i64 a0_0, .int .u64 a0_1, .int .u64 a0_2] 76 (0, 0)) (zb BK321)) : gb321 ≠ gb330))
     have NB330_321 := zK ((by rw [hg]; exact Nat.ne_of_gt (blk_lt (g := gb321) (o := .cells #[.int .i64 a0_0, .int .u64 a0_1, .int .u64 a0_2] 76 (0, 0)) (zb BK321)) : gb330 ≠ gb321))
     replace BK321 := zK (blk_below (g := gb321) (o := .cells #[.int .i64 a0_0, .int .u64 a0_1, .int .u64 a0_2] 76 (0, 0)) (zb BK321) hb)
     have NB322_330 := zK ((by rw [hg]; exact Nat.ne_of_lt (blk_lt (g := gb322) (o := .cells #[.int .i64 0, .int .u64 0, .int .u64 0] 76 (0, 0)) (zb BK322)) : gb322 ≠ gb330))
     have NB330_322 := zK ((by rw [hg]; exact Nat.ne_of_gt (blk_lt (g := gb322) (o := .cells #[.int .i64 0, .int .u64 0, .int .u64 0] 76 (0, 0)) (zb BK322)) : gb330 ≠ gb322))
     replace BK322 := zK (blk_below (g := gb322) (o := .cells #[.int .i64 0, .int .u64 0, .int .u64 0] 76 (0, 0)) (zb BK322) hb)
     have NB325_330 := zK ((by rw [hg]; exact Nat.ne_of_lt (blk_lt (g := gb325) (o := .cells #[.int .i64 t323, .int .u64 t324] 74 (0, 0)) (zb BK325)) : gb325 ≠ gb330))
     have NB330_325 := zK ((by rw [hg]; exact Nat.ne_of_gt (blk_lt (g := gb325) (o := .cells #[.int .i64 t323, .int .u64 t324] 74 (0, 0)) (zb BK325)) : gb330 ≠ gb325))
     replace BK325 := zK (blk_below (g := gb325) (o := .cells #[.int .i64 t323, .int .u64 t324] 74 (0, 0)) (zb BK325) hb)
     clear hb hbox hg
     refine hK.out _ _ ⟨(blk_cell BK321.out 0).trans rfl, (blk_cell BK321.out 1).trans rfl, (blk_cell BK321.out 2).trans rfl, (blk_cell BK325.out 0).trans rfl, (blk_cell BK325.out 1).trans rfl⟩ (fun hHeld => ?_)
     clear hK K
     refine norm_ (a' := ?_) ?_ ?_
     rotate_left
     ·show Act.put _ (some 9) _ = _
      simp only [Act.put, List.setIfInBounds_toArray, List.set_cons_zero, List.set_cons_succ, i64_w, i32_w]
      rfl
     refine one_ (i := 5) (N := some 23) #[true, true, true, true, true, true, true, false] rfl rfl (one_of HT_.out (by kernel_rfl)) (by decide) (fun K hK => ?_)
     refine goes_ Try.func65 (by kernel_rfl) rfl #[.agg #[.int .i64 a0_0, .int .u64 a0_1], .agg #[.int .i64 t326, .int .u64 t327]] (by rfl) rfl rfl (by (try simp only [List.map_toArray, List.map_cons, List.map_nil]); first | done | rfl | (simp only [List.length_drop, List.length_take]; rfl)) ?_
     with_reducible refine (sequiturref01_Plus.calls a0_0 a0_1 t326 t327 t328 t329 _ A6.out).mono ?_
     rintro e w52 ⟨rfl, hb⟩
     refine ⟨_, rfl, ?_⟩
     replace BK321 := zK (blk_below (g := gb321) (o := .cells #[.int .i64 a0_0, .int .u64 a0_1, .int .u64 a0_2] 76 (0, 0)) (zb BK321) hb)
     replace BK322 := zK (blk_below (g := gb322) (o := .cells #[.int .i64 0, .int .u64 0, .int .u64 0] 76 (0, 0)) (zb BK322) hb)
     replace BK325 := zK (blk_below (g := gb325) (o := .cells #[.int .i64 t323, .int .u64 t324] 74 (0, 0)) (zb BK325) hb)
     replace BK330 := zK (blk_below (g := gb330) (o := .cells #[.int .i64 0, .int .u64 0] 74 (0, 0)) (zb BK330) hb)
     replace HB := zK (below_step (zo HB) hb)
     (try clear hb)
     (try clear hb2)
     (try clear hk)
     (try clear hi)
     refine hK.out _ _ ⟨(blk_cell BK321.out 0).trans rfl, (blk_cell BK321.out 1).trans rfl, (blk_cell BK321.out 2).trans rfl, (blk_cell BK325.out 0).trans rfl, (blk_cell BK325.out 1).trans rfl⟩ (fun hHeld => ?_)
     clear hK K
     refine norm_ (a' := ?_) ?_ ?_
     rotate_left
     ·show Act.put _ (some 23) _ = _
      simp only [Act.put, List.setIfInBounds_toArray, List.set_cons_zero, List.set_cons_succ, i64_w, i32_w]
      rfl
     exact norm_ (by simp only [putAll, Act.put, List.setIfInBounds_toArray, List.set_cons_zero, List.set_cons_succ]) (hCont (gb330) _ ⟨hHeld, (zb BK321), (zb BK322), (zb BK325), (zb BK330), GW330.out, GE330.out, NB321_330.out, NB330_321.out, NB322_330.out, NB330_322.out, NB325_330.out, NB330_325.out, (zo HB)⟩)
   ·skip
    refine box_step ?hg (N := 9) ?hd (cs := #[.int .i64 0, .int .u64 0]) (t := 74) ?hr ?_; (case hd => rfl); (case hg => rfl); (case hr => first | (go_simp; done) | (go_simp; rfl))
    intro gb330 hg w50 hbox hb
    have BK330 := zK (hbox)
    have GW330 := zK ((by rw [hg]; exact (below_size (zo HB)) : w.heap.size ≤ gb330))
    have GE330 := zK ((by rw [hg]; exact (below_size (zo HB)) : w.heap.size ≤ gb330))
    replace HB := zK (below_step (zo HB) hb)
    have NB321_330 := zK ((by rw [hg]; exact Nat.ne_of_lt (blk_lt (g := gb321) (o := .cells #[.int .i64 a0_0, .int .u64 a0_1, .int .u64 a0_2] 76 (0, 0)) (zb BK321)) : gb321 ≠ gb330))
    have NB330_321 := zK ((by rw [hg]; exact Nat.ne_of_gt (blk_lt (g := gb321) (o := .cells #[.int .i64 a0_0, .int .u64 a0_1, .int .u64 a0_2] 76 (0, 0)) (zb BK321)) : gb330 ≠ gb321))
    replace BK321 := zK (blk_below (g := gb321) (o := .cells #[.int .i64 a0_0, .int .u64 a0_1, .int .u64 a0_2] 76 (0, 0)) (zb BK321) hb)
    have NB322_330 := zK ((by rw [hg]; exact Nat.ne_of_lt (blk_lt (g := gb322) (o := .cells #[.int .i64 0, .int .u64 0, .int .u64 0] 76 (0, 0)) (zb BK322)) : gb322 ≠ gb330))
    have NB330_322 := zK ((by rw [hg]; exact Nat.ne_of_gt (blk_lt (g := gb322) (o := .cells #[.int .i64 0, .int .u64 0, .int .u64 0] 76 (0, 0)) (zb BK322)) : gb330 ≠ gb322))
    replace BK322 := zK (blk_below (g := gb322) (o := .cells #[.int .i64 0, .int .u64 0, .int .u64 0] 76 (0, 0)) (zb BK322) hb)
    have NB325_330 := zK ((by rw [hg]; exact Nat.ne_of_lt (blk_lt (g := gb325) (o := .cells #[.int .i64 t323, .int .u64 t324] 74 (0, 0)) (zb BK325)) : gb325 ≠ gb330))
    have NB330_325 := zK ((by rw [hg]; exact Nat.ne_of_gt (blk_lt (g := gb325) (o := .cells #[.int .i64 t323, .int .u64 t324] 74 (0, 0)) (zb BK325)) : gb330 ≠ gb325))
    replace BK325 := zK (blk_below (g := gb325) (o := .cells #[.int .i64 t323, .int .u64 t324] 74 (0, 0)) (zb BK325) hb)
    clear hb hbox hg
    refine hK.out _ _ ⟨(blk_cell BK321.out 0).trans rfl, (blk_cell BK321.out 1).trans rfl, (blk_cell BK321.out 2).trans rfl, (blk_cell BK325.out 0).trans rfl, (blk_cell BK325.out 1).trans rfl⟩ (fun hHeld => ?_)
    clear hK K
    refine norm_ (a' := ?_) ?_ ?_
    rotate_left
    ·show Act.put _ (some 9) _ = _
     simp only [Act.put, List.setIfInBounds_toArray, List.set_cons_zero, List.set_cons_succ, i64_w, i32_w]
     rfl
    refine one_ (i := 4) (N := some 22) #[true, true, true, true, true, false, true, false] rfl rfl (one_of HT_.out (by kernel_rfl)) (by decide) (fun K hK => ?_)
    refine goes_ Try.func66 (by kernel_rfl) rfl #[.int .i64 t323] (by rfl) rfl rfl (by (try simp only [List.map_toArray, List.map_cons, List.map_nil]); first | done | rfl | (simp only [List.length_drop, List.length_take]; rfl)) ?_
    with_reducible refine (sequiturref01_Of.calls t323 t326 t327 _ A5.out).mono ?_
    rintro e w51 ⟨rfl, hb⟩
    refine ⟨_, rfl, ?_⟩
    replace BK321 := zK (blk_below (g := gb321) (o := .cells #[.int .i64 a0_0, .int .u64 a0_1, .int .u64 a0_2] 76 (0, 0)) (zb BK321) hb)
    replace BK322 := zK (blk_below (g := gb322) (o := .cells #[.int .i64 0, .int .u64 0, .int .u64 0] 76 (0, 0)) (zb BK322) hb)
    replace BK325 := zK (blk_below (g := gb325) (o := .cells #[.int .i64 t323, .int .u64 t324] 74 (0, 0)) (zb BK325) hb)
    replace BK330 := zK (blk_below (g := gb330) (o := .cells #[.int .i64 0, .int .u64 0] 74 (0, 0)) (zb BK330) hb)
    replace HB := zK (below_step (zo HB) hb)
    (try clear hb)
    (try clear hb2)
    (try clear hk)
    (try clear hi)
    refine hK.out _ _ ⟨(blk_cell BK321.out 0).trans rfl, (blk_cell BK321.out 1).trans rfl, (blk_cell BK321.out 2).trans rfl, (blk_cell BK325.out 0).trans rfl, (blk_cell BK325.out 1).trans rfl⟩ (fun hHeld => ?_)
    clear hK K
    refine norm_ (a' := ?_) ?_ ?_
    rotate_left
    ·show Act.put _ (some 22) _ = _
     simp only [Act.put, List.setIfInBounds_toArray, List.set_cons_zero, List.set_cons_succ, i64_w, i32_w]
     rfl
    refine one_ (i := 5) (N := some 23) #[true, true, true, true, true, true, true, false] rfl rfl (one_of HT_.out (by kernel_rfl)) (by decide) (fun K hK => ?_)
    refine goes_ Try.func65 (by kernel_rfl) rfl #[.agg #[.int .i64 a0_0, .int .u64 a0_1], .agg #[.int .i64 t326, .int .u64 t327]] (by rfl) rfl rfl (by (try simp only [List.map_toArray, List.map_cons, List.map_nil]); first | done | rfl | (simp only [List.length_drop, List.length_take]; rfl)) ?_
    with_reducible refine (sequiturref01_Plus.calls a0_0 a0_1 t326 t327 t328 t329 _ A6.out).mono ?_
    rintro e w52 ⟨rfl, hb⟩
    refine ⟨_, rfl, ?_⟩
    replace BK321 := zK (blk_below (g := gb321) (o := .cells #[.int .i64 a0_0, .int .u64 a0_1, .int .u64 a0_2] 76 (0, 0)) (zb BK321) hb)
    replace BK322 := zK (blk_below (g := gb322) (o := .cells #[.int .i64 0, .int .u64 0, .int .u64 0] 76 (0, 0)) (zb BK322) hb)
    replace BK325 := zK (blk_below (g := gb325) (o := .cells #[.int .i64 t323, .int .u64 t324] 74 (0, 0)) (zb BK325) hb)
    replace BK330 := zK (blk_below (g := gb330) (o := .cells #[.int .i64 0, .int .u64 0] 74 (0, 0)) (zb BK330) hb)
    replace HB := zK (below_step (zo HB) hb)
    (try clear hb)
    (try clear hb2)
    (try clear hk)
    (try clear hi)
    refine hK.out _ _ ⟨(blk_cell BK321.out 0).trans rfl, (blk_cell BK321.out 1).trans rfl, (blk_cell BK321.out 2).trans rfl, (blk_cell BK325.out 0).trans rfl, (blk_cell BK325.out 1).trans rfl⟩ (fun hHeld => ?_)
    clear hK K
    refine norm_ (a' := ?_) ?_ ?_
    rotate_left
    ·show Act.put _ (some 23) _ = _
     simp only [Act.put, List.setIfInBounds_toArray, List.set_cons_zero, List.set_cons_succ, i64_w, i32_w]
     rfl
    exact norm_ (by simp only [putAll, Act.put, List.setIfInBounds_toArray, List.set_cons_zero, List.set_cons_succ]) (hCont (gb330) _ ⟨hHeld, (zb BK321), (zb BK322), (zb BK325), (zb BK330), GW330.out, GE330.out, NB321_330.out, NB330_321.out, NB322_330.out, NB330_322.out, NB325_330.out, NB330_325.out, (zo HB)⟩)
  rintro gb330 w53 ⟨hS_, h0_, h1_, h2_, h3_, h4_, h5_, h6_, h7_, h8_, h9_, h10_, h11_, h12_⟩
  have n0_ : Aside0 (w53.heap[gb321]? = some (.cells #[.int .i64 a0_0, .int .u64 a0_1, .int .u64 a0_2] 76 (0, 0))) := ⟨h0_⟩
  have n1_ : Aside0 (w53.heap[gb322]? = some (.cells #[.int .i64 0, .int .u64 0, .int .u64 0] 76 (0, 0))) := ⟨h1_⟩
  have n2_ : Aside0 (w53.heap[gb325]? = some (.cells #[.int .i64 t323, .int .u64 t324] 74 (0, 0))) := ⟨h2_⟩
  have n3_ : Aside0 (w53.heap[gb330]? = some (.cells #[.int .i64 0, .int .u64 0] 74 (0, 0))) := ⟨h3_⟩
  have n4_ : Aside0 (w.heap.size ≤ gb330) := ⟨h4_⟩
  have n5_ : Aside0 (w.heap.size ≤ gb330) := ⟨h5_⟩
  have n6_ : Aside0 (gb321 ≠ gb330) := ⟨h6_⟩
  have n7_ : Aside0 (gb330 ≠ gb321) := ⟨h7_⟩
  have n8_ : Aside0 (gb322 ≠ gb330) := ⟨h8_⟩
  have n9_ : Aside0 (gb330 ≠ gb322) := ⟨h9_⟩
  have n10_ : Aside0 (gb325 ≠ gb330) := ⟨h10_⟩
  have n11_ : Aside0 (gb330 ≠ gb325) := ⟨h11_⟩
  have n12_ : Aside0 (Below w.heap.size w w53) := ⟨h12_⟩
  clear BK321 BK322 BK325 HB h0_ h1_ h2_ h3_ h4_ h5_ h6_ h7_ h8_ h9_ h10_ h11_ h12_
  have BK321 := n0_
  have BK322 := n1_
  have BK325 := n2_
  have BK330 := n3_
  have GW330 := n4_
  have GE330 := n5_
  have NB321_330 := n6_
  have NB330_321 := n7_
  have NB322_330 := n8_
  have NB330_322 := n9_
  have NB325_330 := n10_
  have NB330_325 := n11_
  have HB := n12_
  clear n0_ n1_ n2_ n3_ n4_ n5_ n6_ n7_ n8_ n9_ n10_ n11_ n12_
  have hHeld : w53.cell? ⟨gb321, 0, none⟩ = some (.int .i64 a0_0) ∧ w53.cell? ⟨gb321, 1, none⟩ = some (.int .u64 a0_1) ∧ w53.cell? ⟨gb321, 2, none⟩ = some (.int .u64 a0_2) ∧ w53.cell? ⟨gb325, 0, none⟩ = some (.int .i64 t323) ∧ w53.cell? ⟨gb325, 1, none⟩ = some (.int .u64 t324) := hS_
  refine norm_ (a' := ?_) ?_ ?_
  rotate_left
  ·simp only [putAll, Act.put, List.setIfInBounds_toArray, List.set_cons_zero, List.set_cons_succ]
   rfl
  refine one_ (i := 7) (N := none) #[true, true, true, true, true, true, true, true] rfl rfl (one_of HT_.out (by kernel_rfl)) (by decide) (fun K hK => ?_)
  have hs54 : w53.cell? ⟨gb330, 0, none⟩ = some (.int .i64 0) := (blk_cell BK330.out 0).trans rfl
  have hfs54 := blk_frozen BK330.out 0
  have hns54_0 := NB321_330.out
  have hns54_1 := NB322_330.out
  have hns54_2 := NB325_330.out
  have hms54_0 := NB330_321.out
  have hms54_1 := NB330_322.out
  have hms54_2 := NB330_325.out
  have hs55 : w53.cell? ⟨gb330, 1, none⟩ = some (.int .u64 0) := (blk_cell BK330.out 1).trans rfl
  have hfs55 := blk_frozen BK330.out 1
  have hns55_0 := NB321_330.out
  have hns55_1 := NB322_330.out
  have hns55_2 := NB325_330.out
  have hms55_0 := NB330_321.out
  have hms55_1 := NB330_322.out
  have hms55_2 := NB330_325.out
  refine skip_ (w1 := ?_) (by rfl) rfl ?_ ?_
  rotate_left
  ·go_simp
   rfl
  refine hK.out _ _ ⟨((cell_far (p := ⟨gb330, _, none⟩) NB321_330.out _).trans (((cell_far (p := ⟨gb330, _, none⟩) NB321_330.out _).trans (hHeld.1)))), ((cell_far (p := ⟨gb330, _, none⟩) NB321_330.out _).trans (((cell_far (p := ⟨gb330, _, none⟩) NB321_330.out _).trans (hHeld.2.1)))), ((cell_far (p := ⟨gb330, _, none⟩) NB321_330.out _).trans (((cell_far (p := ⟨gb330, _, none⟩) NB321_330.out _).trans (hHeld.2.2.1)))), ((cell_far (p := ⟨gb330, _, none⟩) NB325_330.out _).trans (((cell_far (p := ⟨gb330, _, none⟩) NB325_330.out _).trans (hHeld.2.2.2.1)))), ((cell_far (p := ⟨gb330, _, none⟩) NB325_330.out _).trans (((cell_far (p := ⟨gb330, _, none⟩) NB325_330.out _).trans (hHeld.2.2.2.2))))⟩ (fun hHeld => ?_)
  clear hK K
  refine done_ (done_of HT_.out (by kernel_rfl)) ?_
  have hnb56 := NB321_330.out
  have hnc56 := NB330_321.out
  have hcz57_0 : w53.cell? ⟨gb321, 0, none⟩ = some (.int .i64 a0_0) := (blk_cell BK321.out 0).trans rfl
  have hcz57_1 : w53.cell? ⟨gb321, 1, none⟩ = some (.int .u64 a0_1) := (blk_cell BK321.out 1).trans rfl
  have hcz57_2 : w53.cell? ⟨gb321, 2, none⟩ = some (.int .u64 a0_2) := (blk_cell BK321.out 2).trans rfl
  have hfz57_0 := blk_frozen BK321.out 0
  have hfz57_1 := blk_frozen BK321.out 1
  have hfz57_2 := blk_frozen BK321.out 2
  have hnb58 := NB330_322.out
  have hnc58 := NB322_330.out
  have hnb59 := NB330_325.out
  have hnc59 := NB325_330.out
  have hcz60_0 : w53.cell? ⟨gb330, 0, none⟩ = some (.int .i64 0) := (blk_cell BK330.out 0).trans rfl
  have hcz60_1 : w53.cell? ⟨gb330, 1, none⟩ = some (.int .u64 0) := (blk_cell BK330.out 1).trans rfl
  have hfz60_0 := blk_frozen BK330.out 0
  have hfz60_1 := blk_frozen BK330.out 1
  have hcz61_0 : w53.cell? ⟨gb322, 0, none⟩ = some (.int .i64 0) := (blk_cell BK322.out 0).trans rfl
  have hcz61_1 : w53.cell? ⟨gb322, 1, none⟩ = some (.int .u64 0) := (blk_cell BK322.out 1).trans rfl
  have hcz61_2 : w53.cell? ⟨gb322, 2, none⟩ = some (.int .u64 0) := (blk_cell BK322.out 2).trans rfl
  have hfz61_0 := blk_frozen BK322.out 0
  have hfz61_1 := blk_frozen BK322.out 1
  have hfz61_2 := blk_frozen BK322.out 2
  try go_wp2
  refine bodyPost_ret (results_cell_row rfl _ _ gb322 76 #[.int .i64 t328, .int .u64 t329, .int .u64 (IntKind.u64.wrap (a0_2 + t324))] (0, 0) _ rfl (by refine zM ?_; refine blk_put (cs := #[.int .i64 t328, .int .u64 t329, .int .u64 0]) ?_ 2 _ rfl; refine zM ?_; refine blk_put (cs := #[.int .i64 t328, .int .u64 0, .int .u64 0]) ?_ 1 _ rfl; refine zM ?_; refine blk_put (cs := #[.int .i64 0, .int .u64 0, .int .u64 0]) ?_ 0 _ rfl; refine zM ?_; refine blk_far ?_ NB322_330.out _; refine zM ?_; refine blk_far ?_ NB322_330.out _; refine zM ?_; exact BK322.out) Try.underlying76 rfl (by kernel_rfl)) rfl ?_
  exact ⟨by first | rfl | (simp [errW_none, errW_some] <;> rfl) | (simp [*, errW_none, errW_some] <;> rfl), zo HB⟩

end Go.Proofs.Ytmedciidghmkkaa.PIneqTurns
