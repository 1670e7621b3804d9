/- What the call of each function that the law reaches comes to, and the law out of its plain form; no condition but what stands in each theorem. -/
import Derived.Test.YtjinmlpekecmbaaPEuclidChecksx0
import Derived.Test.YtjinmlpekecmbaaPEuclidChecksx9
import Derived.Test.YtjinmlpekecmbaaPEuclidChecksx10
namespace Go.Proofs.Ytjinmlpekecmbaa.PEuclidChecks
open Go.RowKit Go.Proofs.YtjinmlpekecmbaaW.PrintWords Go.Proofs.YtjinmlpekecmbaaW.PrintLast Go.Proofs.YtjinmlpekecmbaaW.PrintMore
open Go.Proofs.YtjinmlpekecmbaaW.PrintWords renaming blk_drewN → zN, blk_drew → zD, blk_alloc → zA, below_alloc → yA, pw_below_drewN → yN, below_drew1 → yD, below_set → yS, gate_callee → zC
open Go.Proofs.YtjinmlpekecmbaaW.PrintWords.Aside0 renaming mk → zK
open Bool renaming true → T_, false → F_
open List renaming setIfInBounds_toArray → zt, set_cons_zero → zz, set_cons_succ → zs
attribute [local go_sem] max2_int min2_int max_two min_two max_three min_three max_four min_four
set_option linter.unusedVariables false
set_option linter.unusedSimpArgs false

/-! ### sequiturref28_More: function 36 -/
def sequiturref28_More.f (k : Nat) (a0_0 : Int) (a0_1 : Int) (a0_2 : Int) (a1 : Int) (a2 : Int) : Option (Int × Int × Int) := (sequiturref01_Times.f k a1 a2).bind fun bt344 => ((sequiturref01_Of.f bt344.1).bind fun bt347 => ((sequiturref01_Plus.f a0_0 a0_1 bt347.1 bt347.2).bind fun bt349 => (if (IntKind.u64.wrap (a0_2 + bt344.2)) < a0_2 then ((sequiturref01_Of.f 1).bind fun bt352 => ((sequiturref01_Plus.f bt349.1 bt349.2 bt352.1 bt352.2).bind fun bt354 => (some (bt354.1, bt354.2, IntKind.u64.wrap (a0_2 + bt344.2))))) else (some (bt349.1, bt349.2, IntKind.u64.wrap (a0_2 + bt344.2))))))
theorem sequiturref28_More.mono : ∀ a0 a1 a2 a3 a4 k, LeO (sequiturref28_More.f k a0 a1 a2 a3 a4) (sequiturref28_More.f (k + 1) a0 a1 a2 a3 a4) := by
 intro a0 a1 a2 a3 a4 k
 unfold sequiturref28_More.f
 repeat' first | (with_reducible first | exact sequiturref01_Times.mono .. | exact LeO.refl _ | exact LeO.none _ | refine LeO.ite ?_ ?_ | refine LeO.bind ?_ (fun _ => ?_)) | exact sequiturref01_Times.mono .. | exact LeO.none _ | refine LeO.ite ?_ ?_ | refine LeO.bind ?_ (fun _ => ?_)
def sequiturref28_More.T3 : Bool × List (List Nat × List Nat) := (true, [([], []), ([0], [0]), ([], []), ([2], [2]), ([3], [3]), ([1, 4, 4], [1, 4]), ([], []), ([6, 5, 5, 0, 1, 2, 3, 4, 5, 6], [5, 6])])
def sequiturref28_More.B3 : List Nat := [0, 1, 0, 4, 12, 31, 0, 127]
theorem sequiturref28_More.tab3 : rtab .any (opsOf Try.f36 3) = sequiturref28_More.T3 := by kernel_rfl
theorem sequiturref28_More.bits3 : waitsOk sequiturref28_More.T3.2 sequiturref28_More.B3 = true := by kernel_rfl
set_option maxHeartbeats 8000000 in
set_option maxRecDepth 100000 in
theorem sequiturref28_More.calls (k : Nat) (a0_0 : Int) (a0_1 : Int) (a0_2 : Int) (a1 : Int) (a2 : Int) (r1 : Int) (r2 : Int) (r3 : Int) (w : World) (h : sequiturref28_More.f k a0_0 a0_1 a0_2 a1 a2 = some (r1, r2, r3)) :
  Calls Try.prog 36 #[.agg #[.int .i64 a0_0, .int .u64 a0_1, .int .u64 a0_2], .int .i64 a1, .int .i64 a2] w fun e w' => e = .returned (.agg #[.int .i64 r1, .int .u64 r2, .int .u64 r3]) ∧ Below w.heap.size w w' := by
 have hu80 := Try.underlying80
 have hu78 := Try.underlying78
 have HB := zK (Below.refl w.heap.size w)
 have H : ((sequiturref01_Times.f k a1 a2).bind fun bt344 => ((sequiturref01_Of.f bt344.1).bind fun bt347 => ((sequiturref01_Plus.f a0_0 a0_1 bt347.1 bt347.2).bind fun bt349 => (if (IntKind.u64.wrap (a0_2 + bt344.2)) < a0_2 then ((sequiturref01_Of.f 1).bind fun bt352 => ((sequiturref01_Plus.f bt349.1 bt349.2 bt352.1 bt352.2).bind fun bt354 => (some (bt354.1, bt354.2, IntKind.u64.wrap (a0_2 + bt344.2))))) else (some (bt349.1, bt349.2, IntKind.u64.wrap (a0_2 + bt344.2))))))) = some (r1, r2, r3) := h
 clear h; replace H := zob H
 obtain ⟨⟨t344, t345⟩, A40, H⟩ := H
 replace H : ((sequiturref01_Of.f t344).bind fun bt347 => ((sequiturref01_Plus.f a0_0 a0_1 bt347.1 bt347.2).bind fun bt349 => (if (IntKind.u64.wrap (a0_2 + t345)) < a0_2 then ((sequiturref01_Of.f 1).bind fun bt352 => ((sequiturref01_Plus.f bt349.1 bt349.2 bt352.1 bt352.2).bind fun bt354 => (some (bt354.1, bt354.2, IntKind.u64.wrap (a0_2 + t345))))) else (some (bt349.1, bt349.2, IntKind.u64.wrap (a0_2 + t345)))))) = some (r1, r2, r3) := H
 have A4 := zK A40; clear A40; replace H := zob H
 obtain ⟨⟨t347, t348⟩, A50, H⟩ := H
 replace H : ((sequiturref01_Plus.f a0_0 a0_1 t347 t348).bind fun bt349 => (if (IntKind.u64.wrap (a0_2 + t345)) < a0_2 then ((sequiturref01_Of.f 1).bind fun bt352 => ((sequiturref01_Plus.f bt349.1 bt349.2 bt352.1 bt352.2).bind fun bt354 => (some (bt354.1, bt354.2, IntKind.u64.wrap (a0_2 + t345))))) else (some (bt349.1, bt349.2, IntKind.u64.wrap (a0_2 + t345))))) = some (r1, r2, r3) := H
 have A5 := zK A50; clear A50; replace H := zob H
 obtain ⟨⟨t349, t350⟩, A60, H⟩ := H
 replace H : (if (IntKind.u64.wrap (a0_2 + t345)) < a0_2 then ((sequiturref01_Of.f 1).bind fun bt352 => ((sequiturref01_Plus.f t349 t350 bt352.1 bt352.2).bind fun bt354 => (some (bt354.1, bt354.2, IntKind.u64.wrap (a0_2 + t345))))) else (some (t349, t350, IntKind.u64.wrap (a0_2 + t345)))) = some (r1, r2, r3) := H
 have A6 := zK A60; clear A60
 by_cases c7 : (IntKind.u64.wrap (a0_2 + t345)) < a0_2
 ·rw [if_pos c7] at H
  have c7b0 : decide ((IntKind.u64.wrap (a0_2 + t345)) < a0_2) = true := decide_eq_true c7
  clear c7; replace H := zob H
  obtain ⟨⟨t352, t353⟩, A80, H⟩ := H
  replace H : ((sequiturref01_Plus.f t349 t350 t352 t353).bind fun bt354 => (some (bt354.1, bt354.2, IntKind.u64.wrap (a0_2 + t345)))) = some (r1, r2, r3) := H
  have A8 := zK A80; clear A80; replace H := zob H
  obtain ⟨⟨t354, t355⟩, A90, H⟩ := H
  replace H : (some (t354, t355, IntKind.u64.wrap (a0_2 + t345))) = some (r1, r2, r3) := H
  have A9 := zK A90; clear A90
  simp only [Option.some.injEq, Prod.mk.injEq] at H
  obtain ⟨rfl, rfl, rfl⟩ := H
  go_enter Try.func36, Try.ntmps36
  try go_wp2_with (first | ((with_reducible refine gate_dst (N := 3) rfl ?_); refine zBx HB (cs := #[.int .i64 a0_0, .int .u64 a0_1, .int .u64 a0_2]) (t := 80) ?_; clear HB; intro gb342 hg w10 BK342 GW342 hb HB; clear hb hg) | ((with_reducible refine gate_dst (N := 6) rfl ?_); refine zBx HB (cs := #[.int .i64 0, .int .u64 0, .int .u64 0]) (t := 80) ?_; clear HB; intro gb343 hg w11 BK343 GW343 hb HB; have NB342_343 := zn1 BK342 hg; have NB343_342 := zn2 BK342 hg; replace BK342 := zbb BK342 hb; clear hb hg) | ((with_reducible refine zC (f := 52) rfl ?_); refine zGo (some 12) Try.func52 #[.int .i64 a1, .int .i64 a2] ?_; (with_reducible refine (sequiturref01_Times.calls k a1 a2 t344 t345 _ A4.out).mono ?_); rintro e w12 ⟨rfl, hb⟩; refine ⟨_, rfl, ?_⟩; replace BK342 := zbb BK342 hb; replace BK343 := zbb BK343 hb; replace HB := zst HB hb; clear hb) | ((with_reducible refine gate_dst (N := 7) rfl ?_); refine zBx HB (cs := #[.int .i64 0, .int .u64 0]) (t := 78) ?_; clear HB; intro gb346 hg w13 BK346 GW346 hb HB; have NB342_346 := zn1 BK342 hg; have NB346_342 := zn2 BK342 hg; replace BK342 := zbb BK342 hb; have NB343_346 := zn1 BK343 hg; have NB346_343 := zn2 BK343 hg; replace BK343 := zbb BK343 hb; clear hb hg; have hnb14 := NB346_342.out; have hnc14 := NB342_346.out; have hnb15 := NB346_343.out; have hnc15 := NB343_346.out; have hcz16_0 := zc0 BK346; have hcz16_1 := zc1 BK346; have hfz16_0 := zfz BK346 0; have hfz16_1 := zfz BK346 1; have hnb17 := NB342_343.out; have hnc17 := NB343_342.out; have hcz18_0 := zc0 BK342; have hcz18_1 := zc1 BK342; have hcz18_2 := zc2 BK342; have hfz18_0 := zfz BK342 0; have hfz18_1 := zfz BK342 1; have hfz18_2 := zfz BK342 2))
  have n0_ : Aside0 (((w13.setCell ⟨gb346, 0, none⟩ (.int .i64 t344)).setCell ⟨gb346, 1, none⟩ (.int .u64 t345)).heap[gb342]? = some (.cells #[.int .i64 a0_0, .int .u64 a0_1, .int .u64 a0_2] 80 (0, 0))) := ⟨zb BK342⟩
  have n1_ : Aside0 (((w13.setCell ⟨gb346, 0, none⟩ (.int .i64 t344)).setCell ⟨gb346, 1, none⟩ (.int .u64 t345)).heap[gb343]? = some (.cells #[.int .i64 0, .int .u64 0, .int .u64 0] 80 (0, 0))) := ⟨zb BK343⟩
  have n2_ : Aside0 (((w13.setCell ⟨gb346, 0, none⟩ (.int .i64 t344)).setCell ⟨gb346, 1, none⟩ (.int .u64 t345)).heap[gb346]? = some (.cells #[.int .i64 t344, .int .u64 t345] 78 (0, 0))) := ⟨by refine zM ?_; refine blk_put (cs := #[.int .i64 t344, .int .u64 0]) ?_ 1 _ rfl; refine zM ?_; refine blk_put (cs := #[.int .i64 0, .int .u64 0]) ?_ 0 _ rfl; refine zM ?_; exact BK346.out⟩
  have n3_ : Aside0 (Below w.heap.size w ((w13.setCell ⟨gb346, 0, none⟩ (.int .i64 t344)).setCell ⟨gb346, 1, none⟩ (.int .u64 t345))) := ⟨zo HB⟩
  (try clear BK342)
  (try clear BK343)
  (try clear BK346)
  (try clear HB)
  generalize ((w13.setCell ⟨gb346, 0, none⟩ (.int .i64 t344)).setCell ⟨gb346, 1, none⟩ (.int .u64 t345)) = w19 at n0_ n1_ n2_ n3_ ⊢
  have BK342 := n0_
  have BK343 := n1_
  have BK346 := n2_
  have HB := n3_; clear n0_ n1_ n2_ n3_
  replace BK342 := zK (zD BK342.out)
  replace BK343 := zK (zD BK343.out)
  replace BK346 := zK (zD BK346.out)
  replace HB := zK (yD HB.out)
  refine start_ (n := 8) (S := fun w' => w'.cell? ⟨gb342, 0, none⟩ = some (.int .i64 a0_0) ∧ w'.cell? ⟨gb342, 1, none⟩ = some (.int .u64 a0_1) ∧ w'.cell? ⟨gb342, 2, none⟩ = some (.int .u64 a0_2) ∧ w'.cell? ⟨gb346, 0, none⟩ = some (.int .i64 t344) ∧ w'.cell? ⟨gb346, 1, none⟩ = some (.int .u64 t345)) (ds := []) #[F_,F_,F_,F_,F_,F_,F_,F_] (by kernel_rfl) rfl rfl ⟨(blk_cell BK342.out 0).trans rfl, (blk_cell BK342.out 1).trans rfl, (blk_cell BK342.out 2).trans rfl, (blk_cell BK346.out 0).trans rfl, (blk_cell BK346.out 1).trans rfl⟩ (fun hHeld => ?_); refine with_tabW sequiturref28_More.tab3 sequiturref28_More.bits3 (fun HT_ HW_ => ?_)
  generalize w19.drew = w20 at BK342 BK343 BK346 HB hHeld ⊢
  refine zPu 0 18 #[T_,F_,F_,F_,F_,F_,F_,F_] ?_
  refine zPu 2 20 #[T_,F_,T_,F_,F_,F_,F_,F_] ?_
  refine zTk 1 19 #[T_,T_,T_,F_,F_,F_,F_,F_] ?_
  refine zTk 3 21 #[T_,T_,T_,T_,F_,F_,F_,F_] ?_
  refine join_ (σ := Nat) 1 #[T_,T_,T_,T_,T_,T_,T_,F_] (fun s_ => [(22, .agg #[.int .i64 t347, .int .u64 t348]), (23, .agg #[.int .i64 t349, .int .u64 t350]), (9, .pointer (some ⟨s_, 0, none⟩))]) (fun s_ w' => (w'.cell? ⟨gb342, 0, none⟩ = some (.int .i64 a0_0) ∧ w'.cell? ⟨gb342, 1, none⟩ = some (.int .u64 a0_1) ∧ w'.cell? ⟨gb342, 2, none⟩ = some (.int .u64 a0_2) ∧ w'.cell? ⟨gb346, 0, none⟩ = some (.int .i64 t344) ∧ w'.cell? ⟨gb346, 1, none⟩ = some (.int .u64 t345)) ∧ (w'.heap[gb342]? = some (.cells #[.int .i64 a0_0, .int .u64 a0_1, .int .u64 a0_2] 80 (0, 0))) ∧ (w'.heap[gb343]? = some (.cells #[.int .i64 0, .int .u64 0, .int .u64 0] 80 (0, 0))) ∧ (w'.heap[gb346]? = some (.cells #[.int .i64 t344, .int .u64 t345] 78 (0, 0))) ∧ (w'.heap[s_]? = some (.cells #[.int .i64 0, .int .u64 0] 78 (0, 0))) ∧ (w.heap.size ≤ s_) ∧ (w.heap.size ≤ s_) ∧ (gb342 ≠ s_) ∧ (s_ ≠ gb342) ∧ (gb343 ≠ s_) ∧ (s_ ≠ gb343) ∧ (gb346 ≠ s_) ∧ (s_ ≠ gb346) ∧ (Below w.heap.size w w')) ?_ ?_
  rotate_left
  ·intro hCont
   refine two_ (i := 4) (j := 6) (Ni := some 22) (Nj := some 9) #[T_,T_,T_,T_,T_,F_,F_,F_] #[T_,T_,T_,T_,F_,F_,T_,F_] rfl rfl rfl rfl (two_of HT_.out (by kernel_rfl)) (by decide) (by decide) (fun K hK => ?_) (fun K hK => ?_)
   ·skip
    refine goes_ Try.func54 (by kernel_rfl) rfl #[.int .i64 t344] (by rfl) rfl rfl (by (try simp only [List.map_toArray, List.map_cons, List.map_nil]); first | done | rfl | (simp only [List.length_drop, List.length_take]; rfl)) ?_
    with_reducible refine (sequiturref01_Of.calls t344 t347 t348 _ A5.out).mono ?_
    rintro e w21 ⟨rfl, hb⟩
    refine ⟨_, rfl, ?_⟩
    replace BK342 := zbb BK342 hb
    replace BK343 := zbb BK343 hb
    replace BK346 := zbb BK346 hb
    replace HB := zst HB hb
    (try clear hb); (try clear hb2); (try clear hk); (try clear hi)
    refine hK.out _ _ ⟨(blk_cell BK342.out 0).trans rfl, (blk_cell BK342.out 1).trans rfl, (blk_cell BK342.out 2).trans rfl, (blk_cell BK346.out 0).trans rfl, (blk_cell BK346.out 1).trans rfl⟩ (fun hHeld => ?_)
    clear hK K
    refine zNm 22 ?_
    refine two_ (i := 5) (j := 6) (Ni := some 23) (Nj := some 9) #[T_,T_,T_,T_,T_,T_,F_,F_] #[T_,T_,T_,T_,T_,F_,T_,F_] rfl rfl rfl rfl (two_of HT_.out (by kernel_rfl)) (by decide) (by decide) (fun K hK => ?_) (fun K hK => ?_)
    ·skip
     refine goes_ Try.func53 (by kernel_rfl) rfl #[.agg #[.int .i64 a0_0, .int .u64 a0_1], .agg #[.int .i64 t347, .int .u64 t348]] (by rfl) rfl rfl (by (try simp only [List.map_toArray, List.map_cons, List.map_nil]); first | done | rfl | (simp only [List.length_drop, List.length_take]; rfl)) ?_
     with_reducible refine (sequiturref01_Plus.calls a0_0 a0_1 t347 t348 t349 t350 _ A6.out).mono ?_
     rintro e w22 ⟨rfl, hb⟩
     refine ⟨_, rfl, ?_⟩
     replace BK342 := zbb BK342 hb
     replace BK343 := zbb BK343 hb
     replace BK346 := zbb BK346 hb
     replace HB := zst HB hb
     (try clear hb); (try clear hb2); (try clear hk); (try clear hi)
     refine hK.out _ _ ⟨(blk_cell BK342.out 0).trans rfl, (blk_cell BK342.out 1).trans rfl, (blk_cell BK342.out 2).trans rfl, (blk_cell BK346.out 0).trans rfl, (blk_cell BK346.out 1).trans rfl⟩ (fun hHeld => ?_)
     clear hK K
     refine zNm 23 ?_
     refine one_ (i := 6) (N := some 9) #[T_,T_,T_,T_,T_,T_,T_,F_] rfl rfl (one_of HT_.out (by kernel_rfl)) (by decide) (fun K hK => ?_)
     refine box_step ?hg (N := 9) ?hd (cs := #[.int .i64 0, .int .u64 0]) (t := 78) ?hr ?_; (case hd => rfl); (case hg => rfl); (case hr => first | (go_simp; done) | (go_simp; rfl))
     intro gb351 hg w23 hbox hb
     have BK351 := zK (hbox)
     have GW351 := zK ((by rw [hg]; exact (below_size (zo HB)) : w.heap.size ≤ gb351))
     have GW351 := zK ((by rw [hg]; exact (below_size (zo HB)) : w.heap.size ≤ gb351))
     replace HB := zst HB hb
     have NB342_351 := zn1 BK342 hg
     have NB351_342 := zn2 BK342 hg
     replace BK342 := zbb BK342 hb
     have NB343_351 := zn1 BK343 hg
     have NB351_343 := zn2 BK343 hg
     replace BK343 := zbb BK343 hb
     have NB346_351 := zn1 BK346 hg
     have NB351_346 := zn2 BK346 hg
     replace BK346 := zbb BK346 hb
     clear hb hbox hg
     refine hK.out _ _ ⟨(blk_cell BK342.out 0).trans rfl, (blk_cell BK342.out 1).trans rfl, (blk_cell BK342.out 2).trans rfl, (blk_cell BK346.out 0).trans rfl, (blk_cell BK346.out 1).trans rfl⟩ (fun hHeld => ?_)
     clear hK K
     refine zNm 9 ?_
     exact norm_ (by simp only [putAll, Act.put, zt, zz, zs]) (hCont (gb351) _ ⟨hHeld, (zb BK342), (zb BK343), (zb BK346), (zb BK351), GW351.out, GW351.out, NB342_351.out, NB351_342.out, NB343_351.out, NB351_343.out, NB346_351.out, NB351_346.out, (zo HB)⟩)
    ·skip
     refine box_step ?hg (N := 9) ?hd (cs := #[.int .i64 0, .int .u64 0]) (t := 78) ?hr ?_; (case hd => rfl); (case hg => rfl); (case hr => first | (go_simp; done) | (go_simp; rfl))
     intro gb351 hg w22 hbox hb
     have BK351 := zK (hbox)
     have GW351 := zK ((by rw [hg]; exact (below_size (zo HB)) : w.heap.size ≤ gb351))
     have GW351 := zK ((by rw [hg]; exact (below_size (zo HB)) : w.heap.size ≤ gb351))
     replace HB := zst HB hb
     have NB342_351 := zn1 BK342 hg
     have NB351_342 := zn2 BK342 hg
     replace BK342 := zbb BK342 hb
     have NB343_351 := zn1 BK343 hg
     have NB351_343 := zn2 BK343 hg
     replace BK343 := zbb BK343 hb
     have NB346_351 := zn1 BK346 hg
     have NB351_346 := zn2 BK346 hg
     replace BK346 := zbb BK346 hb
     clear hb hbox hg
     refine hK.out _ _ ⟨(blk_cell BK342.out 0).trans rfl, (blk_cell BK342.out 1).trans rfl, (blk_cell BK342.out 2).trans rfl, (blk_cell BK346.out 0).trans rfl, (blk_cell BK346.out 1).trans rfl⟩ (fun hHeld => ?_)
     clear hK K
     refine zNm 9 ?_
     refine one_ (i := 5) (N := some 23) #[T_,T_,T_,T_,T_,T_,T_,F_] rfl rfl (one_of HT_.out (by kernel_rfl)) (by decide) (fun K hK => ?_)
     refine goes_ Try.func53 (by kernel_rfl) rfl #[.agg #[.int .i64 a0_0, .int .u64 a0_1], .agg #[.int .i64 t347, .int .u64 t348]] (by rfl) rfl rfl (by (try simp only [List.map_toArray, List.map_cons, List.map_nil]); first | done | rfl | (simp only [List.length_drop, List.length_take]; rfl)) ?_
     with_reducible refine (sequiturref01_Plus.calls a0_0 a0_1 t347 t348 t349 t350 _ A6.out).mono ?_
     rintro e w23 ⟨rfl, hb⟩
     refine ⟨_, rfl, ?_⟩
     replace BK342 := zbb BK342 hb
     replace BK343 := zbb BK343 hb
     replace BK346 := zbb BK346 hb
     replace BK351 := zbb BK351 hb
     replace HB := zst HB hb
     (try clear hb); (try clear hb2); (try clear hk); (try clear hi)
     refine hK.out _ _ ⟨(blk_cell BK342.out 0).trans rfl, (blk_cell BK342.out 1).trans rfl, (blk_cell BK342.out 2).trans rfl, (blk_cell BK346.out 0).trans rfl, (blk_cell BK346.out 1).trans rfl⟩ (fun hHeld => ?_)
     clear hK K
     refine zNm 23 ?_
     exact norm_ (by simp only [putAll, Act.put, zt, zz, zs]) (hCont (gb351) _ ⟨hHeld, (zb BK342), (zb BK343), (zb BK346), (zb BK351), GW351.out, GW351.out, NB342_351.out, NB351_342.out, NB343_351.out, NB351_343.out, NB346_351.out, NB351_346.out, (zo HB)⟩)
   ·skip
    refine box_step ?hg (N := 9) ?hd (cs := #[.int .i64 0, .int .u64 0]) (t := 78) ?hr ?_; (case hd => rfl); (case hg => rfl); (case hr => first | (go_simp; done) | (go_simp; rfl))
    intro gb351 hg w21 hbox hb
    have BK351 := zK (hbox)
    have GW351 := zK ((by rw [hg]; exact (below_size (zo HB)) : w.heap.size ≤ gb351))
    have GW351 := zK ((by rw [hg]; exact (below_size (zo HB)) : w.heap.size ≤ gb351))
    replace HB := zst HB hb
    have NB342_351 := zn1 BK342 hg
    have NB351_342 := zn2 BK342 hg
    replace BK342 := zbb BK342 hb
    have NB343_351 := zn1 BK343 hg
    have NB351_343 := zn2 BK343 hg
    replace BK343 := zbb BK343 hb
    have NB346_351 := zn1 BK346 hg
    have NB351_346 := zn2 BK346 hg
    replace BK346 := zbb BK346 hb
    clear hb hbox hg
    refine hK.out _ _ ⟨(blk_cell BK342.out 0).trans rfl, (blk_cell BK342.out 1).trans rfl, (blk_cell BK342.out 2).trans rfl, (blk_cell BK346.out 0).trans rfl, (blk_cell BK346.out 1).trans rfl⟩ (fun hHeld => ?_)
    clear hK K
    refine zNm 9 ?_
    refine one_ (i := 4) (N := some 22) #[T_,T_,T_,T_,T_,F_,T_,F_] rfl rfl (one_of HT_.out (by kernel_rfl)) (by decide) (fun K hK => ?_)
    refine goes_ Try.func54 (by kernel_rfl) rfl #[.int .i64 t344] (by rfl) rfl rfl (by (try simp only [List.map_toArray, List.map_cons, List.map_nil]); first | done | rfl | (simp only [List.length_drop, List.length_take]; rfl)) ?_
    with_reducible refine (sequiturref01_Of.calls t344 t347 t348 _ A5.out).mono ?_
    rintro e w22 ⟨rfl, hb⟩
    refine ⟨_, rfl, ?_⟩
    replace BK342 := zbb BK342 hb
    replace BK343 := zbb BK343 hb
    replace BK346 := zbb BK346 hb
    replace BK351 := zbb BK351 hb
    replace HB := zst HB hb
    (try clear hb); (try clear hb2); (try clear hk); (try clear hi)
    refine hK.out _ _ ⟨(blk_cell BK342.out 0).trans rfl, (blk_cell BK342.out 1).trans rfl, (blk_cell BK342.out 2).trans rfl, (blk_cell BK346.out 0).trans rfl, (blk_cell BK346.out 1).trans rfl⟩ (fun hHeld => ?_)
    clear hK K
    refine zNm 22 ?_
    refine one_ (i := 5) (N := some 23) #[T_,T_,T_,T_,T_,T_,T_,F_] rfl rfl (one_of HT_.out (by kernel_rfl)) (by decide) (fun K hK => ?_)
    refine goes_ Try.func53 (by kernel_rfl) rfl #[.agg #[.int .i64 a0_0, .int .u64 a0_1], .agg #[.int .i64 t347, .int .u64 t348]] (by rfl) rfl rfl (by (try simp only [List.map_toArray, List.map_cons, List.map_nil]); first | done | rfl | (simp only [List.length_drop, List.length_take]; rfl)) ?_
    with_reducible refine (sequiturref01_Plus.calls a0_0 a0_1 t347 t348 t349 t350 _ A6.out).mono ?_
    rintro e w23 ⟨rfl, hb⟩
    refine ⟨_, rfl, ?_⟩
    replace BK342 := zbb BK342 hb
    replace BK343 := zbb BK343 hb
    replace BK346 := zbb BK346 hb
    replace BK351 := zbb BK351 hb
    replace HB := zst HB hb
    (try clear hb); (try clear hb2); (try clear hk); (try clear hi)
    refine hK.out _ _ ⟨(blk_cell BK342.out 0).trans rfl, (blk_cell BK342.out 1).trans rfl, (blk_cell BK342.out 2).trans rfl, (blk_cell BK346.out 0).trans rfl, (blk_cell BK346.out 1).trans rfl⟩ (fun hHeld => ?_)
    clear hK K
    refine zNm 23 ?_
    exact norm_ (by simp only [putAll, Act.put, zt, zz, zs]) (hCont (gb351) _ ⟨hHeld, (zb BK342), (zb BK343), (zb BK346), (zb BK351), GW351.out, GW351.out, NB342_351.out, NB351_342.out, NB343_351.out, NB351_343.out, NB346_351.out, NB351_346.out, (zo HB)⟩)
  rintro gb351 w24 ⟨hS_, h0_, h1_, h2_, h3_, h4_, h5_, h6_, h7_, h8_, h9_, h10_, h11_, h12_⟩
  have n0_ : Aside0 (w24.heap[gb342]? = some (.cells #[.int .i64 a0_0, .int .u64 a0_1, .int .u64 a0_2] 80 (0, 0))) := ⟨h0_⟩
  have n1_ : Aside0 (w24.heap[gb343]? = some (.cells #[.int .i64 0, .int .u64 0, .int .u64 0] 80 (0, 0))) := ⟨h1_⟩
  have n2_ : Aside0 (w24.heap[gb346]? = some (.cells #[.int .i64 t344, .int .u64 t345] 78 (0, 0))) := ⟨h2_⟩
  have n3_ : Aside0 (w24.heap[gb351]? = some (.cells #[.int .i64 0, .int .u64 0] 78 (0, 0))) := ⟨h3_⟩
  have n4_ : Aside0 (w.heap.size ≤ gb351) := ⟨h4_⟩
  have n5_ : Aside0 (w.heap.size ≤ gb351) := ⟨h5_⟩
  have n6_ : Aside0 (gb342 ≠ gb351) := ⟨h6_⟩
  have n7_ : Aside0 (gb351 ≠ gb342) := ⟨h7_⟩
  have n8_ : Aside0 (gb343 ≠ gb351) := ⟨h8_⟩
  have n9_ : Aside0 (gb351 ≠ gb343) := ⟨h9_⟩
  have n10_ : Aside0 (gb346 ≠ gb351) := ⟨h10_⟩
  have n11_ : Aside0 (gb351 ≠ gb346) := ⟨h11_⟩
  have n12_ : Aside0 (Below w.heap.size w w24) := ⟨h12_⟩
  clear BK342 BK343 BK346 HB h0_ h1_ h2_ h3_ h4_ h5_ h6_ h7_ h8_ h9_ h10_ h11_ h12_
  have BK342 := n0_
  have BK343 := n1_
  have BK346 := n2_
  have BK351 := n3_
  have GW351 := n4_
  have GW351 := n5_
  have NB342_351 := n6_
  have NB351_342 := n7_
  have NB343_351 := n8_
  have NB351_343 := n9_
  have NB346_351 := n10_
  have NB351_346 := n11_
  have HB := n12_
  clear n0_ n1_ n2_ n3_ n4_ n5_ n6_ n7_ n8_ n9_ n10_ n11_ n12_
  have hHeld : w24.cell? ⟨gb342, 0, none⟩ = some (.int .i64 a0_0) ∧ w24.cell? ⟨gb342, 1, none⟩ = some (.int .u64 a0_1) ∧ w24.cell? ⟨gb342, 2, none⟩ = some (.int .u64 a0_2) ∧ w24.cell? ⟨gb346, 0, none⟩ = some (.int .i64 t344) ∧ w24.cell? ⟨gb346, 1, none⟩ = some (.int .u64 t345) := hS_
  refine norm_ (a' := ?_) ?_ ?_
  rotate_left
  ·simp only [putAll, Act.put, zt, zz, zs]
   rfl
  refine one_ (i := 7) (N := none) #[T_,T_,T_,T_,T_,T_,T_,T_] rfl rfl (one_of HT_.out (by kernel_rfl)) (by decide) (fun K hK => ?_)
  have hs25 := zc0 BK351
  have hfs25 := zfz BK351 0
  have hns25_0 := NB342_351.out
  have hns25_1 := NB343_351.out
  have hns25_2 := NB346_351.out
  have hms25_0 := NB351_342.out
  have hms25_1 := NB351_343.out
  have hms25_2 := NB351_346.out
  have hs26 := zc1 BK351
  have hfs26 := zfz BK351 1
  have hns26_0 := NB342_351.out
  have hns26_1 := NB343_351.out
  have hns26_2 := NB346_351.out
  have hms26_0 := NB351_342.out
  have hms26_1 := NB351_343.out
  have hms26_2 := NB351_346.out
  refine skip_ (w1 := ?_) (by rfl) rfl ?_ ?_
  rotate_left
  ·go_simp
   rfl
  refine hK.out _ _ ⟨((cell_far (p := ⟨gb351, _, none⟩) NB342_351.out _).trans (((cell_far (p := ⟨gb351, _, none⟩) NB342_351.out _).trans (hHeld.1)))), ((cell_far (p := ⟨gb351, _, none⟩) NB342_351.out _).trans (((cell_far (p := ⟨gb351, _, none⟩) NB342_351.out _).trans (hHeld.2.1)))), ((cell_far (p := ⟨gb351, _, none⟩) NB342_351.out _).trans (((cell_far (p := ⟨gb351, _, none⟩) NB342_351.out _).trans (hHeld.2.2.1)))), ((cell_far (p := ⟨gb351, _, none⟩) NB346_351.out _).trans (((cell_far (p := ⟨gb351, _, none⟩) NB346_351.out _).trans (hHeld.2.2.2.1)))), ((cell_far (p := ⟨gb351, _, none⟩) NB346_351.out _).trans (((cell_far (p := ⟨gb351, _, none⟩) NB346_351.out _).trans (hHeld.2.2.2.2))))⟩ (fun hHeld => ?_)
  clear hK K
  refine done_ (done_of HT_.out (by kernel_rfl)) ?_
  have hnb27 := NB342_351.out
  have hnc27 := NB351_342.out
  have hcz28_0 := zc0 BK342
  have hcz28_1 := zc1 BK342
  have hcz28_2 := zc2 BK342
  have hfz28_0 := zfz BK342 0
  have hfz28_1 := zfz BK342 1
  have hfz28_2 := zfz BK342 2
  try go_wp2
  have n0_ : Aside0 (((w24.setCell ⟨gb351, 0, none⟩ (.int .i64 t349)).setCell ⟨gb351, 1, none⟩ (.int .u64 t350)).heap[gb342]? = some (.cells #[.int .i64 a0_0, .int .u64 a0_1, .int .u64 a0_2] 80 (0, 0))) := ⟨zb BK342⟩
  have n1_ : Aside0 (((w24.setCell ⟨gb351, 0, none⟩ (.int .i64 t349)).setCell ⟨gb351, 1, none⟩ (.int .u64 t350)).heap[gb343]? = some (.cells #[.int .i64 0, .int .u64 0, .int .u64 0] 80 (0, 0))) := ⟨zb BK343⟩
  have n2_ : Aside0 (((w24.setCell ⟨gb351, 0, none⟩ (.int .i64 t349)).setCell ⟨gb351, 1, none⟩ (.int .u64 t350)).heap[gb346]? = some (.cells #[.int .i64 t344, .int .u64 t345] 78 (0, 0))) := ⟨zb BK346⟩
  have n3_ : Aside0 (((w24.setCell ⟨gb351, 0, none⟩ (.int .i64 t349)).setCell ⟨gb351, 1, none⟩ (.int .u64 t350)).heap[gb351]? = some (.cells #[.int .i64 t349, .int .u64 t350] 78 (0, 0))) := ⟨by refine zM ?_; refine blk_put (cs := #[.int .i64 t349, .int .u64 0]) ?_ 1 _ rfl; refine zM ?_; refine blk_put (cs := #[.int .i64 0, .int .u64 0]) ?_ 0 _ rfl; refine zM ?_; exact BK351.out⟩
  have n4_ : Aside0 (Below w.heap.size w ((w24.setCell ⟨gb351, 0, none⟩ (.int .i64 t349)).setCell ⟨gb351, 1, none⟩ (.int .u64 t350))) := ⟨zo HB⟩
  (try clear BK342)
  (try clear BK343)
  (try clear BK346)
  (try clear BK351)
  (try clear HB)
  generalize ((w24.setCell ⟨gb351, 0, none⟩ (.int .i64 t349)).setCell ⟨gb351, 1, none⟩ (.int .u64 t350)) = w29 at n0_ n1_ n2_ n3_ n4_ ⊢
  have BK342 := n0_
  have BK343 := n1_
  have BK346 := n2_
  have BK351 := n3_
  have HB := n4_; clear n0_ n1_ n2_ n3_ n4_
  replace BK342 := zK (zD BK342.out)
  replace BK343 := zK (zD BK343.out)
  replace BK346 := zK (zD BK346.out)
  replace BK351 := zK (zD BK351.out)
  replace HB := zK (yD HB.out)
  refine start_ (n := 4) (S := fun w' => w'.cell? ⟨gb351, 0, none⟩ = some (.int .i64 t349) ∧ w'.cell? ⟨gb351, 1, none⟩ = some (.int .u64 t350)) (ds := [3]) #[F_,F_,F_,F_] (by kernel_rfl) rfl rfl ⟨(blk_cell BK351.out 0).trans rfl, (blk_cell BK351.out 1).trans rfl⟩ (fun hHeld => ?_)
  generalize w29.drew = w30 at BK342 BK343 BK346 BK351 HB hHeld ⊢
  refine take_ (i := 0) (N := some 28) (v := ?_) (a' := ?_) #[T_,F_,F_,F_] rfl rfl (by kernel_rfl) (fun _ _ _ h => h) (Or.inl ⟨by rfl, ?_⟩) hHeld ?_ ?_; rotate_left; (rintro w' ⟨s0, s1⟩; go_simp; with_reducible rfl); rotate_left; (simp only [Act.put, zt, zz, zs, i64_w, i32_w]; rfl)
  refine one_ (i := 1) (N := some 29) #[T_,T_,F_,F_] rfl rfl (by kernel_rfl) (by decide) (fun K hK => ?_)
  refine goes_ Try.func54 (by kernel_rfl) rfl #[.int .i64 1] (by rfl) rfl rfl (by (try simp only [List.map_toArray, List.map_cons, List.map_nil]); first | done | rfl | (simp only [List.length_drop, List.length_take]; rfl)) ?_
  with_reducible refine (sequiturref01_Of.calls 1 t352 t353 _ A8.out).mono ?_
  rintro e w31 ⟨rfl, hb⟩
  refine ⟨_, rfl, ?_⟩
  replace BK342 := zbb BK342 hb
  replace BK343 := zbb BK343 hb
  replace BK346 := zbb BK346 hb
  replace BK351 := zbb BK351 hb
  replace HB := zst HB hb
  (try clear hb); (try clear hb2); (try clear hk); (try clear hi)
  refine hK.out _ _ ⟨(blk_cell BK351.out 0).trans rfl, (blk_cell BK351.out 1).trans rfl⟩ (fun hHeld => ?_)
  clear hK K
  refine zNm 29 ?_
  refine one_ (i := 2) (N := some 30) #[T_,T_,T_,F_] rfl rfl (by kernel_rfl) (by decide) (fun K hK => ?_)
  refine goes_ Try.func53 (by kernel_rfl) rfl #[.agg #[.int .i64 t349, .int .u64 t350], .agg #[.int .i64 t352, .int .u64 t353]] (by rfl) rfl rfl (by (try simp only [List.map_toArray, List.map_cons, List.map_nil]); first | done | rfl | (simp only [List.length_drop, List.length_take]; rfl)) ?_
  with_reducible refine (sequiturref01_Plus.calls t349 t350 t352 t353 t354 t355 _ A9.out).mono ?_
  rintro e w32 ⟨rfl, hb⟩
  refine ⟨_, rfl, ?_⟩
  replace BK342 := zbb BK342 hb
  replace BK343 := zbb BK343 hb
  replace BK346 := zbb BK346 hb
  replace BK351 := zbb BK351 hb
  replace HB := zst HB hb
  (try clear hb); (try clear hb2); (try clear hk); (try clear hi)
  refine hK.out _ _ ⟨(blk_cell BK351.out 0).trans rfl, (blk_cell BK351.out 1).trans rfl⟩ (fun hHeld => ?_)
  clear hK K
  refine zNm 30 ?_
  refine last_ (i := 3) (N := none) #[T_,T_,T_,T_] rfl rfl (by kernel_rfl) (by decide) (fun K hK => ?_)
  have hs33 := zc0 BK351
  have hfs33 := zfz BK351 0
  have hns33_0 := NB342_351.out
  have hns33_1 := NB343_351.out
  have hns33_2 := NB346_351.out
  have hms33_0 := NB351_342.out
  have hms33_1 := NB351_343.out
  have hms33_2 := NB351_346.out
  have hs34 := zc1 BK351
  have hfs34 := zfz BK351 1
  have hns34_0 := NB342_351.out
  have hns34_1 := NB343_351.out
  have hns34_2 := NB346_351.out
  have hms34_0 := NB351_342.out
  have hms34_1 := NB351_343.out
  have hms34_2 := NB351_346.out
  refine skip_ (w1 := ?_) (by rfl) rfl ?_ ?_
  rotate_left
  ·go_simp
   rfl
  refine hK.out _ _ ?_
  clear hK K
  refine done_ (by kernel_rfl) ?_
  have hnb35 := NB351_343.out
  have hnc35 := NB343_351.out
  have hnb36 := NB351_346.out
  have hnc36 := NB346_351.out
  have hcz37_0 := zc0 BK351
  have hcz37_1 := zc1 BK351
  have hfz37_0 := zfz BK351 0
  have hfz37_1 := zfz BK351 1
  have hcz38_0 := zc0 BK343
  have hcz38_1 := zc1 BK343
  have hcz38_2 := zc2 BK343
  have hfz38_0 := zfz BK343 0
  have hfz38_1 := zfz BK343 1
  have hfz38_2 := zfz BK343 2
  try go_wp2
  refine bodyPost_ret (results_cell_row rfl _ _ gb343 80 #[.int .i64 t354, .int .u64 t355, .int .u64 (IntKind.u64.wrap (a0_2 + t345))] (0, 0) _ rfl (by refine zM ?_; refine blk_put (cs := #[.int .i64 t354, .int .u64 t355, .int .u64 0]) ?_ 2 _ rfl; refine zM ?_; refine blk_put (cs := #[.int .i64 t354, .int .u64 0, .int .u64 0]) ?_ 1 _ rfl; refine zM ?_; refine blk_put (cs := #[.int .i64 0, .int .u64 0, .int .u64 0]) ?_ 0 _ rfl; refine zM ?_; refine blk_far ?_ NB343_351.out _; refine zM ?_; refine blk_far ?_ NB343_351.out _; refine zM ?_; exact BK343.out) Try.underlying80 rfl (by kernel_rfl)) rfl ?_
  exact zR (h := zo HB)
 ·rw [if_neg c7] at H
  have c7b0 : decide ((IntKind.u64.wrap (a0_2 + t345)) < a0_2) = false := decide_eq_false c7
  clear c7
  simp only [Option.some.injEq, Prod.mk.injEq] at H
  obtain ⟨rfl, rfl, rfl⟩ := H
  go_enter Try.func36, Try.ntmps36
  try go_wp2_with (first | ((with_reducible refine gate_dst (N := 3) rfl ?_); refine zBx HB (cs := #[.int .i64 a0_0, .int .u64 a0_1, .int .u64 a0_2]) (t := 80) ?_; clear HB; intro gb342 hg w39 BK342 GW342 hb HB; clear hb hg) | ((with_reducible refine gate_dst (N := 6) rfl ?_); refine zBx HB (cs := #[.int .i64 0, .int .u64 0, .int .u64 0]) (t := 80) ?_; clear HB; intro gb343 hg w40 BK343 GW343 hb HB; have NB342_343 := zn1 BK342 hg; have NB343_342 := zn2 BK342 hg; replace BK342 := zbb BK342 hb; clear hb hg) | ((with_reducible refine zC (f := 52) rfl ?_); refine zGo (some 12) Try.func52 #[.int .i64 a1, .int .i64 a2] ?_; (with_reducible refine (sequiturref01_Times.calls k a1 a2 t344 t345 _ A4.out).mono ?_); rintro e w41 ⟨rfl, hb⟩; refine ⟨_, rfl, ?_⟩; replace BK342 := zbb BK342 hb; replace BK343 := zbb BK343 hb; replace HB := zst HB hb; clear hb) | ((with_reducible refine gate_dst (N := 7) rfl ?_); refine zBx HB (cs := #[.int .i64 0, .int .u64 0]) (t := 78) ?_; clear HB; intro gb346 hg w42 BK346 GW346 hb HB; have NB342_346 := zn1 BK342 hg; have NB346_342 := zn2 BK342 hg; replace BK342 := zbb BK342 hb; have NB343_346 := zn1 BK343 hg; have NB346_343 := zn2 BK343 hg; replace BK343 := zbb BK343 hb; clear hb hg; have hnb43 := NB346_342.out; have hnc43 := NB342_346.out; have hnb44 := NB346_343.out; have hnc44 := NB343_346.out; have hcz45_0 := zc0 BK346; have hcz45_1 := zc1 BK346; have hfz45_0 := zfz BK346 0; have hfz45_1 := zfz BK346 1; have hnb46 := NB342_343.out; have hnc46 := NB343_342.out; have hcz47_0 := zc0 BK342; have hcz47_1 := zc1 BK342; have hcz47_2 := zc2 BK342; have hfz47_0 := zfz BK342 0; have hfz47_1 := zfz BK342 1; have hfz47_2 := zfz BK342 2))
  have n0_ : Aside0 (((w42.setCell ⟨gb346, 0, none⟩ (.int .i64 t344)).setCell ⟨gb346, 1, none⟩ (.int .u64 t345)).heap[gb342]? = some (.cells #[.int .i64 a0_0, .int .u64 a0_1, .int .u64 a0_2] 80 (0, 0))) := ⟨zb BK342⟩
  have n1_ : Aside0 (((w42.setCell ⟨gb346, 0, none⟩ (.int .i64 t344)).setCell ⟨gb346, 1, none⟩ (.int .u64 t345)).heap[gb343]? = some (.cells #[.int .i64 0, .int .u64 0, .int .u64 0] 80 (0, 0))) := ⟨zb BK343⟩
  have n2_ : Aside0 (((w42.setCell ⟨gb346, 0, none⟩ (.int .i64 t344)).setCell ⟨gb346, 1, none⟩ (.int .u64 t345)).heap[gb346]? = some (.cells #[.int .i64 t344, .int .u64 t345] 78 (0, 0))) := ⟨by refine zM ?_; refine blk_put (cs := #[.int .i64 t344, .int .u64 0]) ?_ 1 _ rfl; refine zM ?_; refine blk_put (cs := #[.int .i64 0, .int .u64 0]) ?_ 0 _ rfl; refine zM ?_; exact BK346.out⟩
  have n3_ : Aside0 (Below w.heap.size w ((w42.setCell ⟨gb346, 0, none⟩ (.int .i64 t344)).setCell ⟨gb346, 1, none⟩ (.int .u64 t345))) := ⟨zo HB⟩
  (try clear BK342)
  (try clear BK343)
  (try clear BK346)
  (try clear HB)
  generalize ((w42.setCell ⟨gb346, 0, none⟩ (.int .i64 t344)).setCell ⟨gb346, 1, none⟩ (.int .u64 t345)) = w48 at n0_ n1_ n2_ n3_ ⊢
  have BK342 := n0_
  have BK343 := n1_
  have BK346 := n2_
  have HB := n3_; clear n0_ n1_ n2_ n3_
  replace BK342 := zK (zD BK342.out)
  replace BK343 := zK (zD BK343.out)
  replace BK346 := zK (zD BK346.out)
  replace HB := zK (yD HB.out)
  refine start_ (n := 8) (S := fun w' => w'.cell? ⟨gb342, 0, none⟩ = some (.int .i64 a0_0) ∧ w'.cell? ⟨gb342, 1, none⟩ = some (.int .u64 a0_1) ∧ w'.cell? ⟨gb342, 2, none⟩ = some (.int .u64 a0_2) ∧ w'.cell? ⟨gb346, 0, none⟩ = some (.int .i64 t344) ∧ w'.cell? ⟨gb346, 1, none⟩ = some (.int .u64 t345)) (ds := []) #[F_,F_,F_,F_,F_,F_,F_,F_] (by kernel_rfl) rfl rfl ⟨(blk_cell BK342.out 0).trans rfl, (blk_cell BK342.out 1).trans rfl, (blk_cell BK342.out 2).trans rfl, (blk_cell BK346.out 0).trans rfl, (blk_cell BK346.out 1).trans rfl⟩ (fun hHeld => ?_); refine with_tabW sequiturref28_More.tab3 sequiturref28_More.bits3 (fun HT_ HW_ => ?_)
  generalize w48.drew = w49 at BK342 BK343 BK346 HB hHeld ⊢
  refine zPu 0 18 #[T_,F_,F_,F_,F_,F_,F_,F_] ?_
  refine zPu 2 20 #[T_,F_,T_,F_,F_,F_,F_,F_] ?_
  refine zTk 1 19 #[T_,T_,T_,F_,F_,F_,F_,F_] ?_
  refine zTk 3 21 #[T_,T_,T_,T_,F_,F_,F_,F_] ?_
  refine join_ (σ := Nat) 1 #[T_,T_,T_,T_,T_,T_,T_,F_] (fun s_ => [(22, .agg #[.int .i64 t347, .int .u64 t348]), (23, .agg #[.int .i64 t349, .int .u64 t350]), (9, .pointer (some ⟨s_, 0, none⟩))]) (fun s_ w' => (w'.cell? ⟨gb342, 0, none⟩ = some (.int .i64 a0_0) ∧ w'.cell? ⟨gb342, 1, none⟩ = some (.int .u64 a0_1) ∧ w'.cell? ⟨gb342, 2, none⟩ = some (.int .u64 a0_2) ∧ w'.cell? ⟨gb346, 0, none⟩ = some (.int .i64 t344) ∧ w'.cell? ⟨gb346, 1, none⟩ = some (.int .u64 t345)) ∧ (w'.heap[gb342]? = some (.cells #[.int .i64 a0_0, .int .u64 a0_1, .int .u64 a0_2] 80 (0, 0))) ∧ (w'.heap[gb343]? = some (.cells #[.int .i64 0, .int .u64 0, .int .u64 0] 80 (0, 0))) ∧ (w'.heap[gb346]? = some (.cells #[.int .i64 t344, .int .u64 t345] 78 (0, 0))) ∧ (w'.heap[s_]? = some (.cells #[.int .i64 0, .int .u64 0] 78 (0, 0))) ∧ (w.heap.size ≤ s_) ∧ (w.heap.size ≤ s_) ∧ (gb342 ≠ s_) ∧ (s_ ≠ gb342) ∧ (gb343 ≠ s_) ∧ (s_ ≠ gb343) ∧ (gb346 ≠ s_) ∧ (s_ ≠ gb346) ∧ (Below w.heap.size w w')) ?_ ?_
  rotate_left
  ·intro hCont
   refine two_ (i := 4) (j := 6) (Ni := some 22) (Nj := some 9) #[T_,T_,T_,T_,T_,F_,F_,F_] #[T_,T_,T_,T_,F_,F_,T_,F_] rfl rfl rfl rfl (two_of HT_.out (by kernel_rfl)) (by decide) (by decide) (fun K hK => ?_) (fun K hK => ?_)
   ·skip
    refine goes_ Try.func54 (by kernel_rfl) rfl #[.int .i64 t344] (by rfl) rfl rfl (by (try simp only [List.map_toArray, List.map_cons, List.map_nil]); first | done | rfl | (simp only [List.length_drop, List.length_take]; rfl)) ?_
    with_reducible refine (sequiturref01_Of.calls t344 t347 t348 _ A5.out).mono ?_
    rintro e w50 ⟨rfl, hb⟩
    refine ⟨_, rfl, ?_⟩
    replace BK342 := zbb BK342 hb
    replace BK343 := zbb BK343 hb
    replace BK346 := zbb BK346 hb
    replace HB := zst HB hb
    (try clear hb); (try clear hb2); (try clear hk); (try clear hi)
    refine hK.out _ _ ⟨(blk_cell BK342.out 0).trans rfl, (blk_cell BK342.out 1).trans rfl, (blk_cell BK342.out 2).trans rfl, (blk_cell BK346.out 0).trans rfl, (blk_cell BK346.out 1).trans rfl⟩ (fun hHeld => ?_)
    clear hK K
    refine zNm 22 ?_
    refine two_ (i := 5) (j := 6) (Ni := some 23) (Nj := some 9) #[T_,T_,T_,T_,T_,T_,F_,F_] #[T_,T_,T_,T_,T_,F_,T_,F_] rfl rfl rfl rfl (two_of HT_.out (by kernel_rfl)) (by decide) (by decide) (fun K hK => ?_) (fun K hK => ?_)
    ·skip
     refine goes_ Try.func53 (by kernel_rfl) rfl #[.agg #[.int .i64 a0_0, .int .u64 a0_1], .agg #[.int .i64 t347, .int .u64 t348]] (by rfl) rfl rfl (by (try simp only [List.map_toArray, List.map_cons, List.map_nil]); first | done | rfl | (simp only [List.length_drop, List.length_take]; rfl)) ?_
     with_reducible refine (sequiturref01_Plus.calls a0_0 a0_1 t347 t348 t349 t350 _ A6.out).mono ?_
     rintro e w51 ⟨rfl, hb⟩
     refine ⟨_, rfl, ?_⟩
     replace BK342 := zbb BK342 hb
     replace BK343 := zbb BK343 hb
     replace BK346 := zbb BK346 hb
     replace HB := zst HB hb
     (try clear hb); (try clear hb2); (try clear hk); (try clear hi)
     refine hK.out _ _ ⟨(blk_cell BK342.out 0).trans rfl, (blk_cell BK342.out 1).trans rfl, (blk_cell BK342.out 2).trans rfl, (blk_cell BK346.out 0).trans rfl, (blk_cell BK346.out 1).trans rfl⟩ (fun hHeld => ?_)
     clear hK K
     refine zNm 23 ?_
     refine one_ (i := 6) (N := some 9) #[T_,T_,T_,T_,T_,T_,T_,F_] rfl rfl (one_of HT_.out (by kernel_rfl)) (by decide) (fun K hK => ?_)
     refine box_step ?hg (N := 9) ?hd (cs := #[.int .i64 0, .int .u64 0]) (t := 78) ?hr ?_; (case hd => rfl); (case hg => rfl); (case hr => first | (go_simp; done) | (go_simp; rfl))
     intro gb351 hg w52 hbox hb
     have BK351 := zK (hbox)
     have GW351 := zK ((by rw [hg]; exact (below_size (zo HB)) : w.heap.size ≤ gb351))
     have GW351 := zK ((by rw [hg]; exact (below_size (zo HB)) : w.heap.size ≤ gb351))
     replace HB := zst HB hb
     have NB342_351 := zn1 BK342 hg
     have NB351_342 := zn2 BK342 hg
     replace BK342 := zbb BK342 hb
     have NB343_351 := zn1 BK343 hg
     have NB351_343 := zn2 BK343 hg
     replace BK343 := zbb BK343 hb
     have NB346_351 := zn1 BK346 hg
     have NB351_346 := zn2 BK346 hg
     replace BK346 := zbb BK346 hb
     clear hb hbox hg
     refine hK.out _ _ ⟨(blk_cell BK342.out 0).trans rfl, (blk_cell BK342.out 1).trans rfl, (blk_cell BK342.out 2).trans rfl, (blk_cell BK346.out 0).trans rfl, (blk_cell BK346.out 1).trans rfl⟩ (fun hHeld => ?_)
     clear hK K
     refine zNm 9 ?_
     exact norm_ (by simp only [putAll, Act.put, zt, zz, zs]) (hCont (gb351) _ ⟨hHeld, (zb BK342), (zb BK343), (zb BK346), (zb BK351), GW351.out, GW351.out, NB342_351.out, NB351_342.out, NB343_351.out, NB351_343.out, NB346_351.out, NB351_346.out, (zo HB)⟩)
    ·skip
     refine box_step ?hg (N := 9) ?hd (cs := #[.int .i64 0, .int .u64 0]) (t := 78) ?hr ?_; (case hd => rfl); (case hg => rfl); (case hr => first | (go_simp; done) | (go_simp; rfl))
     intro gb351 hg w51 hbox hb
     have BK351 := zK (hbox)
     have GW351 := zK ((by rw [hg]; exact (below_size (zo HB)) : w.heap.size ≤ gb351))
     have GW351 := zK ((by rw [hg]; exact (below_size (zo HB)) : w.heap.size ≤ gb351))
     replace HB := zst HB hb
     have NB342_351 := zn1 BK342 hg
     have NB351_342 := zn2 BK342 hg
     replace BK342 := zbb BK342 hb
     have NB343_351 := zn1 BK343 hg
     have NB351_343 := zn2 BK343 hg
     replace BK343 := zbb BK343 hb
     have NB346_351 := zn1 BK346 hg
     have NB351_346 := zn2 BK346 hg
     replace BK346 := zbb BK346 hb
     clear hb hbox hg
     refine hK.out _ _ ⟨(blk_cell BK342.out 0).trans rfl, (blk_cell BK342.out 1).trans rfl, (blk_cell BK342.out 2).trans rfl, (blk_cell BK346.out 0).trans rfl, (blk_cell BK346.out 1).trans rfl⟩ (fun hHeld => ?_)
     clear hK K
     refine zNm 9 ?_
     refine one_ (i := 5) (N := some 23) #[T_,T_,T_,T_,T_,T_,T_,F_] rfl rfl (one_of HT_.out (by kernel_rfl)) (by decide) (fun K hK => ?_)
     refine goes_ Try.func53 (by kernel_rfl) rfl #[.agg #[.int .i64 a0_0, .int .u64 a0_1], .agg #[.int .i64 t347, .int .u64 t348]] (by rfl) rfl rfl (by (try simp only [List.map_toArray, List.map_cons, List.map_nil]); first | done | rfl | (simp only [List.length_drop, List.length_take]; rfl)) ?_
     with_reducible refine (sequiturref01_Plus.calls a0_0 a0_1 t347 t348 t349 t350 _ A6.out).mono ?_
     rintro e w52 ⟨rfl, hb⟩
     refine ⟨_, rfl, ?_⟩
     replace BK342 := zbb BK342 hb
     replace BK343 := zbb BK343 hb
     replace BK346 := zbb BK346 hb
     replace BK351 := zbb BK351 hb
     replace HB := zst HB hb
     (try clear hb); (try clear hb2); (try clear hk); (try clear hi)
     refine hK.out _ _ ⟨(blk_cell BK342.out 0).trans rfl, (blk_cell BK342.out 1).trans rfl, (blk_cell BK342.out 2).trans rfl, (blk_cell BK346.out 0).trans rfl, (blk_cell BK346.out 1).trans rfl⟩ (fun hHeld => ?_)
     clear hK K
     refine zNm 23 ?_
     exact norm_ (by simp only [putAll, Act.put, zt, zz, zs]) (hCont (gb351) _ ⟨hHeld, (zb BK342), (zb BK343), (zb BK346), (zb BK351), GW351.out, GW351.out, NB342_351.out, NB351_342.out, NB343_351.out, NB351_343.out, NB346_351.out, NB351_346.out, (zo HB)⟩)
   ·skip
    refine box_step ?hg (N := 9) ?hd (cs := #[.int .i64 0, .int .u64 0]) (t := 78) ?hr ?_; (case hd => rfl); (case hg => rfl); (case hr => first | (go_simp; done) | (go_simp; rfl))
    intro gb351 hg w50 hbox hb
    have BK351 := zK (hbox)
    have GW351 := zK ((by rw [hg]; exact (below_size (zo HB)) : w.heap.size ≤ gb351))
    have GW351 := zK ((by rw [hg]; exact (below_size (zo HB)) : w.heap.size ≤ gb351))
    replace HB := zst HB hb
    have NB342_351 := zn1 BK342 hg
    have NB351_342 := zn2 BK342 hg
    replace BK342 := zbb BK342 hb
    have NB343_351 := zn1 BK343 hg
    have NB351_343 := zn2 BK343 hg
    replace BK343 := zbb BK343 hb
    have NB346_351 := zn1 BK346 hg
    have NB351_346 := zn2 BK346 hg
    replace BK346 := zbb BK346 hb
    clear hb hbox hg
    refine hK.out _ _ ⟨(blk_cell BK342.out 0).trans rfl, (blk_cell BK342.out 1).trans rfl, (blk_cell BK342.out 2).trans rfl, (blk_cell BK346.out 0).trans rfl, (blk_cell BK346.out 1).trans rfl⟩ (fun hHeld => ?_)
    clear hK K
    refine zNm 9 ?_
    refine one_ (i := 4) (N := some 22) #[T_,T_,T_,T_,T_,F_,T_,F_] rfl rfl (one_of HT_.out (by kernel_rfl)) (by decide) (fun K hK => ?_)
    refine goes_ Try.func54 (by kernel_rfl) rfl #[.int .i64 t344] (by rfl) rfl rfl (by (try simp only [List.map_toArray, List.map_cons, List.map_nil]); first | done | rfl | (simp only [List.length_drop, List.length_take]; rfl)) ?_
    with_reducible refine (sequiturref01_Of.calls t344 t347 t348 _ A5.out).mono ?_
    rintro e w51 ⟨rfl, hb⟩
    refine ⟨_, rfl, ?_⟩
    replace BK342 := zbb BK342 hb
    replace BK343 := zbb BK343 hb
    replace BK346 := zbb BK346 hb
    replace BK351 := zbb BK351 hb
    replace HB := zst HB hb
    (try clear hb); (try clear hb2); (try clear hk); (try clear hi)
    refine hK.out _ _ ⟨(blk_cell BK342.out 0).trans rfl, (blk_cell BK342.out 1).trans rfl, (blk_cell BK342.out 2).trans rfl, (blk_cell BK346.out 0).trans rfl, (blk_cell BK346.out 1).trans rfl⟩ (fun hHeld => ?_)
    clear hK K
    refine zNm 22 ?_
    refine one_ (i := 5) (N := some 23) #[T_,T_,T_,T_,T_,T_,T_,F_] rfl rfl (one_of HT_.out (by kernel_rfl)) (by decide) (fun K hK => ?_)
    refine goes_ Try.func53 (by kernel_rfl) rfl #[.agg #[.int .i64 a0_0, .int .u64 a0_1], .agg #[.int .i64 t347, .int .u64 t348]] (by rfl) rfl rfl (by (try simp only [List.map_toArray, List.map_cons, List.map_nil]); first | done | rfl | (simp only [List.length_drop, List.length_take]; rfl)) ?_
    with_reducible refine (sequiturref01_Plus.calls a0_0 a0_1 t347 t348 t349 t350 _ A6.out).mono ?_
    rintro e w52 ⟨rfl, hb⟩
    refine ⟨_, rfl, ?_⟩
    replace BK342 := zbb BK342 hb
    replace BK343 := zbb BK343 hb
    replace BK346 := zbb BK346 hb
    replace BK351 := zbb BK351 hb
    replace HB := zst HB hb
    (try clear hb); (try clear hb2); (try clear hk); (try clear hi)
    refine hK.out _ _ ⟨(blk_cell BK342.out 0).trans rfl, (blk_cell BK342.out 1).trans rfl, (blk_cell BK342.out 2).trans rfl, (blk_cell BK346.out 0).trans rfl, (blk_cell BK346.out 1).trans rfl⟩ (fun hHeld => ?_)
    clear hK K
    refine zNm 23 ?_
    exact norm_ (by simp only [putAll, Act.put, zt, zz, zs]) (hCont (gb351) _ ⟨hHeld, (zb BK342), (zb BK343), (zb BK346), (zb BK351), GW351.out, GW351.out, NB342_351.out, NB351_342.out, NB343_351.out, NB351_343.out, NB346_351.out, NB351_346.out, (zo HB)⟩)
  rintro gb351 w53 ⟨hS_, h0_, h1_, h2_, h3_, h4_, h5_, h6_, h7_, h8_, h9_, h10_, h11_, h12_⟩
  have n0_ : Aside0 (w53.heap[gb342]? = some (.cells #[.int .i64 a0_0, .int .u64 a0_1, .int .u64 a0_2] 80 (0, 0))) := ⟨h0_⟩
  have n1_ : Aside0 (w53.heap[gb343]? = some (.cells #[.int .i64 0, .int .u64 0, .int .u64 0] 80 (0, 0))) := ⟨h1_⟩
  have n2_ : Aside0 (w53.heap[gb346]? = some (.cells #[.int .i64 t344, .int .u64 t345] 78 (0, 0))) := ⟨h2_⟩
  have n3_ : Aside0 (w53.heap[gb351]? = some (.cells #[.int .i64 0, .int .u64 0] 78 (0, 0))) := ⟨h3_⟩
  have n4_ : Aside0 (w.heap.size ≤ gb351) := ⟨h4_⟩
  have n5_ : Aside0 (w.heap.size ≤ gb351) := ⟨h5_⟩
  have n6_ : Aside0 (gb342 ≠ gb351) := ⟨h6_⟩
  have n7_ : Aside0 (gb351 ≠ gb342) := ⟨h7_⟩
  have n8_ : Aside0 (gb343 ≠ gb351) := ⟨h8_⟩
  have n9_ : Aside0 (gb351 ≠ gb343) := ⟨h9_⟩
  have n10_ : Aside0 (gb346 ≠ gb351) := ⟨h10_⟩
  have n11_ : Aside0 (gb351 ≠ gb346) := ⟨h11_⟩
  have n12_ : Aside0 (Below w.heap.size w w53) := ⟨h12_⟩
  clear BK342 BK343 BK346 HB h0_ h1_ h2_ h3_ h4_ h5_ h6_ h7_ h8_ h9_ h10_ h11_ h12_
  have BK342 := n0_
  have BK343 := n1_
  have BK346 := n2_
  have BK351 := n3_
  have GW351 := n4_
  have GW351 := n5_
  have NB342_351 := n6_
  have NB351_342 := n7_
  have NB343_351 := n8_
  have NB351_343 := n9_
  have NB346_351 := n10_
  have NB351_346 := n11_
  have HB := n12_
  clear n0_ n1_ n2_ n3_ n4_ n5_ n6_ n7_ n8_ n9_ n10_ n11_ n12_
  have hHeld : w53.cell? ⟨gb342, 0, none⟩ = some (.int .i64 a0_0) ∧ w53.cell? ⟨gb342, 1, none⟩ = some (.int .u64 a0_1) ∧ w53.cell? ⟨gb342, 2, none⟩ = some (.int .u64 a0_2) ∧ w53.cell? ⟨gb346, 0, none⟩ = some (.int .i64 t344) ∧ w53.cell? ⟨gb346, 1, none⟩ = some (.int .u64 t345) := hS_
  refine norm_ (a' := ?_) ?_ ?_
  rotate_left
  ·simp only [putAll, Act.put, zt, zz, zs]
   rfl
  refine one_ (i := 7) (N := none) #[T_,T_,T_,T_,T_,T_,T_,T_] rfl rfl (one_of HT_.out (by kernel_rfl)) (by decide) (fun K hK => ?_)
  have hs54 := zc0 BK351
  have hfs54 := zfz BK351 0
  have hns54_0 := NB342_351.out
  have hns54_1 := NB343_351.out
  have hns54_2 := NB346_351.out
  have hms54_0 := NB351_342.out
  have hms54_1 := NB351_343.out
  have hms54_2 := NB351_346.out
  have hs55 := zc1 BK351
  have hfs55 := zfz BK351 1
  have hns55_0 := NB342_351.out
  have hns55_1 := NB343_351.out
  have hns55_2 := NB346_351.out
  have hms55_0 := NB351_342.out
  have hms55_1 := NB351_343.out
  have hms55_2 := NB351_346.out
  refine skip_ (w1 := ?_) (by rfl) rfl ?_ ?_
  rotate_left
  ·go_simp
   rfl
  refine hK.out _ _ ⟨((cell_far (p := ⟨gb351, _, none⟩) NB342_351.out _).trans (((cell_far (p := ⟨gb351, _, none⟩) NB342_351.out _).trans (hHeld.1)))), ((cell_far (p := ⟨gb351, _, none⟩) NB342_351.out _).trans (((cell_far (p := ⟨gb351, _, none⟩) NB342_351.out _).trans (hHeld.2.1)))), ((cell_far (p := ⟨gb351, _, none⟩) NB342_351.out _).trans (((cell_far (p := ⟨gb351, _, none⟩) NB342_351.out _).trans (hHeld.2.2.1)))), ((cell_far (p := ⟨gb351, _, none⟩) NB346_351.out _).trans (((cell_far (p := ⟨gb351, _, none⟩) NB346_351.out _).trans (hHeld.2.2.2.1)))), ((cell_far (p := ⟨gb351, _, none⟩) NB346_351.out _).trans (((cell_far (p := ⟨gb351, _, none⟩) NB346_351.out _).trans (hHeld.2.2.2.2))))⟩ (fun hHeld => ?_)
  clear hK K
  refine done_ (done_of HT_.out (by kernel_rfl)) ?_
  have hnb56 := NB342_351.out
  have hnc56 := NB351_342.out
  have hcz57_0 := zc0 BK342
  have hcz57_1 := zc1 BK342
  have hcz57_2 := zc2 BK342
  have hfz57_0 := zfz BK342 0
  have hfz57_1 := zfz BK342 1
  have hfz57_2 := zfz BK342 2
  have hnb58 := NB351_343.out
  have hnc58 := NB343_351.out
  have hnb59 := NB351_346.out
  have hnc59 := NB346_351.out
  have hcz60_0 := zc0 BK351
  have hcz60_1 := zc1 BK351
  have hfz60_0 := zfz BK351 0
  have hfz60_1 := zfz BK351 1
  have hcz61_0 := zc0 BK343
  have hcz61_1 := zc1 BK343
  have hcz61_2 := zc2 BK343
  have hfz61_0 := zfz BK343 0
  have hfz61_1 := zfz BK343 1
  have hfz61_2 := zfz BK343 2
  try go_wp2
  refine bodyPost_ret (results_cell_row rfl _ _ gb343 80 #[.int .i64 t349, .int .u64 t350, .int .u64 (IntKind.u64.wrap (a0_2 + t345))] (0, 0) _ rfl (by refine zM ?_; refine blk_put (cs := #[.int .i64 t349, .int .u64 t350, .int .u64 0]) ?_ 2 _ rfl; refine zM ?_; refine blk_put (cs := #[.int .i64 t349, .int .u64 0, .int .u64 0]) ?_ 1 _ rfl; refine zM ?_; refine blk_put (cs := #[.int .i64 0, .int .u64 0, .int .u64 0]) ?_ 0 _ rfl; refine zM ?_; refine blk_far ?_ NB343_351.out _; refine zM ?_; refine blk_far ?_ NB343_351.out _; refine zM ?_; exact BK343.out) Try.underlying80 rfl (by kernel_rfl)) rfl ?_
  exact zR (h := zo HB)

end Go.Proofs.Ytjinmlpekecmbaa.PEuclidChecks
