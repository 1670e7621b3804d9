/- What the call of each function that the law reaches comes to: it answers as the plain function of the same name does, wherever that one answers; and the law itself out of its plain form. Written by a program of this session (an extended copy of the printer); no condition but what stands in each theorem. -/
import Derived.Test.YtmedciidghmkkaaPIneqTurnsx0
import Derived.Test.YtmedciidghmkkaaPIneqTurnsx9
import Derived.Test.YtmedciidghmkkaaPIneqTurnsx11
import Derived.Test.YtmedciidghmkkaaPIneqTurnsx12
namespace Go.Proofs.Ytmedciidghmkkaa.PIneqTurns
open Go.RowKit Go.Proofs.YtmedciidghmkkaaW.PrintWords Go.Proofs.YtmedciidghmkkaaW.PrintLast Go.Proofs.YtmedciidghmkkaaW.PrintMore
open Go.Proofs.YtmedciidghmkkaaW.PrintWords renaming blk_drewN → zN, blk_drew → zD, blk_alloc → zA, below_alloc → yA, pw_below_drewN → yN, below_drew1 → yD, below_set → yS, gate_callee → zC
open Go.Proofs.YtmedciidghmkkaaW.PrintWords.Kd renaming V_alloc → vA, V_drewN → vN, V_drew → vD, N_alloc → nA, N_drewN → nN, N_drew → nD, C_alloc → cA, C_drewN → cN, C_drew → cD, V_mono → vM
open Go.Proofs.YtmedciidghmkkaaW.PrintWords.Aside0 renaming mk → zK
attribute [local go_sem] max2_int min2_int max_two min_two max_three min_three max_four min_four   -- for this text's walks alone
set_option linter.unusedVariables false
set_option linter.unusedSimpArgs false

/-! ### sequiturref28_Not: function 24 -/
def sequiturref28_Not.f (k : Nat) (a0_0 : Int) (l0_1 : List (S47)) (a0_2 : Bool) : Option (Int × (List (S47)) × Bool × Int) := (sequiturref28_Form.f k a0_0 l0_1).bind fun t371 => (if t371 = true then (if a0_2 = true then (some (0, ([] : List (S47)), false, 1)) else ((sequiturref28_Lin.f k (([(⟨a0_0, l0_1⟩ : S28), (⟨1, ([] : List (S47))⟩ : S28)] : List (S28))) (([(-1), 1] : List Int))).bind fun bt378 => (some (bt378.1, bt378.2.1, false, bt378.2.2)))) else (some (0, ([] : List (S47)), false, 1)))
theorem sequiturref28_Not.mono : ∀ a0 a1 a2 k, LeO (sequiturref28_Not.f k a0 a1 a2) (sequiturref28_Not.f (k + 1) a0 a1 a2) := by
 intro a0 a1 a2 k
 unfold sequiturref28_Not.f
 repeat' first
   | (with_reducible exact sequiturref28_Form.mono _ _ _)
   | (with_reducible exact sequiturref28_Lin.mono _ _ _)
   | (with_reducible exact LeO.refl _)
   | (with_reducible exact LeO.none _)
   | (with_reducible refine LeO.ite ?_ ?_)
   | (with_reducible refine LeO.bind ?_ (fun _ => ?_))
   | exact sequiturref28_Form.mono _ _ _
   | exact sequiturref28_Lin.mono _ _ _
   | exact LeO.none _
   | refine LeO.ite ?_ ?_
   | refine LeO.bind ?_ (fun _ => ?_)
set_option maxHeartbeats 8000000 in
set_option maxRecDepth 100000 in
theorem sequiturref28_Not.calls (k : Nat) (a0_0 : Int) (P0_1_ : Nat → Prop) (A0_1 : Option Addr) (c0_1 : Nat) (l0_1 : List (S47)) (a0_2 : Bool) (r1 : Int) (r2 : List (S47)) (r3 : Bool) (r4 : Int) (w : World) (hs0_1 : Kd.V k47 47 w w.heap.size (fun k_ => P0_1_ k_) (.slice A0_1 l0_1.length c0_1) l0_1) (h : sequiturref28_Not.f k a0_0 l0_1 a0_2 = some (r1, r2, r3, r4)) :
  Calls Try.prog 24 #[.agg #[.int .i64 a0_0, .slice A0_1 l0_1.length c0_1, .bool a0_2]] w fun e w' => ∃ v1_ : Value, e = .returned (.tuple #[.agg #[.int .i64 r1, v1_, .bool r3], .int .i64 r4]) ∧ Kd.R k47 47 w' w.heap.size (fun k_ => (w.heap.size ≤ k_)) v1_ r2 ∧ Below w.heap.size w w' := by
 have hu30 := Try.underlying30
 have hu28 := Try.underlying28
 have HO0_1 := zK (show Kd.V k47 47 w w.heap.size (fun k_ => (P0_1_ k_ ∨ w.heap.size ≤ k_)) (.slice A0_1 l0_1.length c0_1) l0_1 from vM hs0_1 (fun k_ hk => .inl hk))
 have HB := zK (Below.refl w.heap.size w)
 have H : ((sequiturref28_Form.f k a0_0 l0_1).bind fun t371 => (if t371 = true then (if a0_2 = true then (some (0, ([] : List (S47)), false, 1)) else ((sequiturref28_Lin.f k (([(⟨a0_0, l0_1⟩ : S28), (⟨1, ([] : List (S47))⟩ : S28)] : List (S28))) (([(-1), 1] : List Int))).bind fun bt378 => (some (bt378.1, bt378.2.1, false, bt378.2.2)))) else (some (0, ([] : List (S47)), false, 1)))) = some (r1, r2, r3, r4) := h
 clear h
 replace H := Option.bind_eq_some_iff.mp H
 obtain ⟨t371, A20, H⟩ := H
 replace H : (if t371 = true then (if a0_2 = true then (some (0, ([] : List (S47)), false, 1)) else ((sequiturref28_Lin.f k (([(⟨a0_0, l0_1⟩ : S28), (⟨1, ([] : List (S47))⟩ : S28)] : List (S28))) (([(-1), 1] : List Int))).bind fun bt378 => (some (bt378.1, bt378.2.1, false, bt378.2.2)))) else (some (0, ([] : List (S47)), false, 1))) = some (r1, r2, r3, r4) := H
 have A2 := zK A20
 clear A20
 by_cases c3 : t371 = true
 ·subst c3
  have H1 : (if a0_2 = true then (some (0, ([] : List (S47)), false, 1)) else ((sequiturref28_Lin.f k (([(⟨a0_0, l0_1⟩ : S28), (⟨1, ([] : List (S47))⟩ : S28)] : List (S28))) (([(-1), 1] : List Int))).bind fun bt378 => (some (bt378.1, bt378.2.1, false, bt378.2.2)))) = some (r1, r2, r3, r4) := by rw [if_pos rfl] at H; exact H
  clear H
  have H := H1
  clear H1
  by_cases c4 : a0_2 = true
  ·subst c4
   have H1 : (some (0, ([] : List (S47)), false, 1)) = some (r1, r2, r3, r4) := by rw [if_pos rfl] at H; exact H
   clear H
   have H := H1
   clear H1
   simp only [Option.some.injEq, Prod.mk.injEq] at H
   obtain ⟨rfl, rfl, rfl, rfl⟩ := H
   go_enter Try.func24, Try.ntmps24
   go_wp2_with (first | ((with_reducible refine gate_dst (N := 1) rfl ?_); refine box_event ?hg (N := 1) ?hd (cs := #[.int .i64 a0_0, .slice A0_1 l0_1.length c0_1, .bool true]) (t := 30) ?hr ?_; (case hd => rfl); (case hg => rfl); (case hr => first | (go_simp; done) | (go_simp; rfl)); intro gb369 hg w5 hbox hb; replace HO0_1 := zK (Kd.V_below (Kd.V_elderB (zv HO0_1) gb369 (Nat.le_of_eq hg.symm)) hb); have BK369 := zK (hbox); have GW369 := zK ((by rw [hg]; exact (below_size (zo HB)) : w.heap.size ≤ gb369)); have GE369 := zK ((by rw [hg]; exact (below_size (zo HB)) : w.heap.size ≤ gb369)); replace HB := zK (below_step (zo HB) hb); clear hb hbox hg) | ((with_reducible refine gate_dst (N := 2) rfl ?_); refine box_event ?hg (N := 2) ?hd (cs := #[.int .i64 0, .slice none 0 0, .bool false]) (t := 30) ?hr ?_; (case hd => rfl); (case hg => rfl); (case hr => first | (go_simp; done) | (go_simp; rfl)); intro gb370 hg w6 hbox hb; replace HO0_1 := zK (Kd.V_below (Kd.V_elderB (zv HO0_1) gb370 (Nat.le_of_eq hg.symm)) hb); have BK370 := zK (hbox); have GW370 := zK ((by rw [hg]; exact (below_size (zo HB)) : w.heap.size ≤ gb370)); have GE370 := zK ((by rw [hg]; exact (below_size (zo HB)) : w.heap.size ≤ gb370)); replace HB := zK (below_step (zo HB) hb); have NB369_370 := zK ((by rw [hg]; exact Nat.ne_of_lt (blk_lt (g := gb369) (o := .cells #[.int .i64 a0_0, .slice A0_1 l0_1.length c0_1, .bool true] 30 (0, 0)) (zb BK369)) : gb369 ≠ gb370)); have NB370_369 := zK ((by rw [hg]; exact Nat.ne_of_gt (blk_lt (g := gb369) (o := .cells #[.int .i64 a0_0, .slice A0_1 l0_1.length c0_1, .bool true] 30 (0, 0)) (zb BK369)) : gb370 ≠ gb369)); replace BK369 := zK (blk_below (g := gb369) (o := .cells #[.int .i64 a0_0, .slice A0_1 l0_1.length c0_1, .bool true] 30 (0, 0)) (zb BK369) hb); clear hb hbox hg; have hnb7 := NB369_370.out; have hnc7 := NB370_369.out; have hcz8_0 : w6.cell? ⟨gb369, 0, none⟩ = some (.int .i64 a0_0) := (blk_cell BK369.out 0).trans rfl; have hcz8_1 : w6.cell? ⟨gb369, 1, none⟩ = some (.slice A0_1 l0_1.length c0_1) := (blk_cell BK369.out 1).trans rfl; have hcz8_2 : w6.cell? ⟨gb369, 2, none⟩ = some (.bool true) := (blk_cell BK369.out 2).trans rfl; have hfz8_0 := blk_frozen BK369.out 0; have hfz8_1 := blk_frozen BK369.out 1; have hfz8_2 := blk_frozen BK369.out 2) | ((with_reducible refine zC (f := 17) rfl ?_); refine goesL_ (some 8) rfl rfl Try.func17 (by kernel_rfl) rfl #[.agg #[.int .i64 a0_0, .slice A0_1 l0_1.length c0_1]] rfl (by (try simp only [List.map_toArray, List.map_cons, List.map_nil]); first | done | rfl | (simp only [List.length_drop, List.length_take]; rfl)) ?_; (with_reducible refine (sequiturref28_Form.calls k a0_0 _ _ l0_1 true _ ?side1 ?side2 A2.out).mono ?_); (case side1 => repeat (first | exact (Kd.V_reads' HO0_1.out).2.2 | (with_reducible refine cA ?_ _) | (with_reducible refine cN ?_ _) | (with_reducible refine cD ?_))); (case side2 => exact (Kd.V_reads' HO0_1.out).2.1); rintro e w9 ⟨rfl, hb⟩; refine ⟨_, rfl, ?_⟩; replace HO0_1 := zK (Kd.V_below (zv HO0_1) hb); replace BK369 := zK (blk_below (g := gb369) (o := .cells #[.int .i64 a0_0, .slice A0_1 l0_1.length c0_1, .bool true] 30 (0, 0)) (zb BK369) hb); replace BK370 := zK (blk_below (g := gb370) (o := .cells #[.int .i64 0, .slice none 0 0, .bool false] 30 (0, 0)) (zb BK370) hb); replace HB := zK (below_step (zo HB) hb); (try clear hb); (try clear hb2); (try clear hk); (try clear hi); have hcz10_0 : w9.cell? ⟨gb369, 0, none⟩ = some (.int .i64 a0_0) := (blk_cell BK369.out 0).trans rfl; have hcz10_1 : w9.cell? ⟨gb369, 1, none⟩ = some (.slice A0_1 l0_1.length c0_1) := (blk_cell BK369.out 1).trans rfl; have hcz10_2 : w9.cell? ⟨gb369, 2, none⟩ = some (.bool true) := (blk_cell BK369.out 2).trans rfl; have hfz10_0 := blk_frozen BK369.out 0; have hfz10_1 := blk_frozen BK369.out 1; have hfz10_2 := blk_frozen BK369.out 2; have hcz11_0 : w9.cell? ⟨gb370, 0, none⟩ = some (.int .i64 0) := (blk_cell BK370.out 0).trans rfl; have hcz11_1 : w9.cell? ⟨gb370, 1, none⟩ = some (.slice none 0 0) := (blk_cell BK370.out 1).trans rfl; have hcz11_2 : w9.cell? ⟨gb370, 2, none⟩ = some (.bool false) := (blk_cell BK370.out 2).trans rfl; have hfz11_0 := blk_frozen BK370.out 0; have hfz11_1 := blk_frozen BK370.out 1; have hfz11_2 := blk_frozen BK370.out 2))
   refine bodyPost_ret (results_ct rfl _ _ gb370 30 #[.int .i64 0, .slice none 0 0, .bool false] (0, 0) _ rfl (by refine zM ?_; refine blk_put (cs := #[.int .i64 0, .slice none 0 0, .bool false]) ?_ 2 _ rfl; refine zM ?_; refine blk_put (cs := #[.int .i64 0, .slice none 0 0, .bool false]) ?_ 1 _ rfl; refine zM ?_; refine blk_put (cs := #[.int .i64 0, .slice none 0 0, .bool false]) ?_ 0 _ rfl; refine zM ?_; exact BK370.out) Try.underlying30 rfl (by kernel_rfl)) rfl ?_
   exact ⟨_, by first | rfl | (simp [errW_none, errW_some] <;> rfl) | (simp [*, errW_none, errW_some] <;> rfl), by first | exact Kd.R_nil _ _ _ _ _ | exact Kd.N_nil _ _ _ _ _ | exact Kd.V_nil _ _ _ _ _ | exact Kd.Q_nil _ _ _ _ _ | exact Kd.S_nil _ _ _ _ _, zo HB⟩
  ·replace c4 := Bool.eq_false_iff.mpr c4
   subst c4
   have H1 : ((sequiturref28_Lin.f k (([(⟨a0_0, l0_1⟩ : S28), (⟨1, ([] : List (S47))⟩ : S28)] : List (S28))) (([(-1), 1] : List Int))).bind fun bt378 => (some (bt378.1, bt378.2.1, false, bt378.2.2))) = some (r1, r2, r3, r4) := by rw [if_neg (show ¬ (false = true) by decide)] at H; exact H
   clear H
   have H := H1
   clear H1
   obtain ⟨y372, hy372⟩ : ∃ y_ : List (S28), y_ = (([(⟨a0_0, l0_1⟩ : S28), (⟨1, ([] : List (S47))⟩ : S28)] : List (S28))) := ⟨_, rfl⟩
   replace H : ((sequiturref28_Lin.f k y372 (([(-1), 1] : List Int))).bind fun bt378 => (some (bt378.1, bt378.2.1, false, bt378.2.2))) = some (r1, r2, r3, r4) := by first | (rw [hy372]; with_reducible exact H) | (have H2_ := (Option.bind_some _ _).symm.trans H; rw [hy372]; with_reducible exact H2_) | (have H2_ := (Option.bind_some _ _).symm.trans H; with_reducible exact H2_) | with_reducible exact H | (rw [hy372]; exact H) | exact H
   have Ny372 := zK hy372
   clear hy372
   obtain ⟨y375, hy375⟩ : ∃ y_ : List Int, y_ = (([(-1), 1] : List Int)) := ⟨_, rfl⟩
   replace H : ((sequiturref28_Lin.f k y372 y375).bind fun bt378 => (some (bt378.1, bt378.2.1, false, bt378.2.2))) = some (r1, r2, r3, r4) := by first | (rw [hy375]; with_reducible exact H) | (have H2_ := (Option.bind_some _ _).symm.trans H; rw [hy375]; with_reducible exact H2_) | (have H2_ := (Option.bind_some _ _).symm.trans H; with_reducible exact H2_) | with_reducible exact H | (rw [hy375]; exact H) | exact H
   have Ny375 := zK hy375
   clear hy375
   replace H := Option.bind_eq_some_iff.mp H
   obtain ⟨⟨t378, t379, t382⟩, A120, H⟩ := H
   replace H : (some (t378, t379, false, t382)) = some (r1, r2, r3, r4) := H
   have A12 := zK A120
   clear A120
   simp only [Option.some.injEq, Prod.mk.injEq] at H
   obtain ⟨rfl, rfl, rfl, rfl⟩ := H
   go_enter Try.func24, Try.ntmps24
   go_wp2_with (first | ((with_reducible refine gate_dst (N := 1) rfl ?_); refine box_event ?hg (N := 1) ?hd (cs := #[.int .i64 a0_0, .slice A0_1 l0_1.length c0_1, .bool false]) (t := 30) ?hr ?_; (case hd => rfl); (case hg => rfl); (case hr => first | (go_simp; done) | (go_simp; rfl)); intro gb369 hg w13 hbox hb; replace HO0_1 := zK (Kd.V_below (Kd.V_elderB (zv HO0_1) gb369 (Nat.le_of_eq hg.symm)) hb); have BK369 := zK (hbox); have GW369 := zK ((by rw [hg]; exact (below_size (zo HB)) : w.heap.size ≤ gb369)); have GE369 := zK ((by rw [hg]; exact (below_size (zo HB)) : w.heap.size ≤ gb369)); replace HB := zK (below_step (zo HB) hb); clear hb hbox hg) | ((with_reducible refine gate_dst (N := 2) rfl ?_); refine box_event ?hg (N := 2) ?hd (cs := #[.int .i64 0, .slice none 0 0, .bool false]) (t := 30) ?hr ?_; (case hd => rfl); (case hg => rfl); (case hr => first | (go_simp; done) | (go_simp; rfl)); intro gb370 hg w14 hbox hb; replace HO0_1 := zK (Kd.V_below (Kd.V_elderB (zv HO0_1) gb370 (Nat.le_of_eq hg.symm)) hb); have BK370 := zK (hbox); have GW370 := zK ((by rw [hg]; exact (below_size (zo HB)) : w.heap.size ≤ gb370)); have GE370 := zK ((by rw [hg]; exact (below_size (zo HB)) : w.heap.size ≤ gb370)); replace HB := zK (below_step (zo HB) hb); have NB369_370 := zK ((by rw [hg]; exact Nat.ne_of_lt (blk_lt (g := gb369) (o := .cells #[.int .i64 a0_0, .slice A0_1 l0_1.length c0_1, .bool false] 30 (0, 0)) (zb BK369)) : gb369 ≠ gb370)); have NB370_369 := zK ((by rw [hg]; exact Nat.ne_of_gt (blk_lt (g := gb369) (o := .cells #[.int .i64 a0_0, .slice A0_1 l0_1.length c0_1, .bool false] 30 (0, 0)) (zb BK369)) : gb370 ≠ gb369)); replace BK369 := zK (blk_below (g := gb369) (o := .cells #[.int .i64 a0_0, .slice A0_1 l0_1.length c0_1, .bool false] 30 (0, 0)) (zb BK369) hb); clear hb hbox hg; have hnb15 := NB369_370.out; have hnc15 := NB370_369.out; have hcz16_0 : w14.cell? ⟨gb369, 0, none⟩ = some (.int .i64 a0_0) := (blk_cell BK369.out 0).trans rfl; have hcz16_1 : w14.cell? ⟨gb369, 1, none⟩ = some (.slice A0_1 l0_1.length c0_1) := (blk_cell BK369.out 1).trans rfl; have hcz16_2 : w14.cell? ⟨gb369, 2, none⟩ = some (.bool false) := (blk_cell BK369.out 2).trans rfl; have hfz16_0 := blk_frozen BK369.out 0; have hfz16_1 := blk_frozen BK369.out 1; have hfz16_2 := blk_frozen BK369.out 2) | ((with_reducible refine zC (f := 17) rfl ?_); refine goesL_ (some 8) rfl rfl Try.func17 (by kernel_rfl) rfl #[.agg #[.int .i64 a0_0, .slice A0_1 l0_1.length c0_1]] rfl (by (try simp only [List.map_toArray, List.map_cons, List.map_nil]); first | done | rfl | (simp only [List.length_drop, List.length_take]; rfl)) ?_; (with_reducible refine (sequiturref28_Form.calls k a0_0 _ _ l0_1 true _ ?side1 ?side2 A2.out).mono ?_); (case side1 => repeat (first | exact (Kd.V_reads' HO0_1.out).2.2 | (with_reducible refine cA ?_ _) | (with_reducible refine cN ?_ _) | (with_reducible refine cD ?_))); (case side2 => exact (Kd.V_reads' HO0_1.out).2.1); rintro e w17 ⟨rfl, hb⟩; refine ⟨_, rfl, ?_⟩; replace HO0_1 := zK (Kd.V_below (zv HO0_1) hb); replace BK369 := zK (blk_below (g := gb369) (o := .cells #[.int .i64 a0_0, .slice A0_1 l0_1.length c0_1, .bool false] 30 (0, 0)) (zb BK369) hb); replace BK370 := zK (blk_below (g := gb370) (o := .cells #[.int .i64 0, .slice none 0 0, .bool false] 30 (0, 0)) (zb BK370) hb); replace HB := zK (below_step (zo HB) hb); (try clear hb); (try clear hb2); (try clear hk); (try clear hi); have hcz18_0 : w17.cell? ⟨gb369, 0, none⟩ = some (.int .i64 a0_0) := (blk_cell BK369.out 0).trans rfl; have hcz18_1 : w17.cell? ⟨gb369, 1, none⟩ = some (.slice A0_1 l0_1.length c0_1) := (blk_cell BK369.out 1).trans rfl; have hcz18_2 : w17.cell? ⟨gb369, 2, none⟩ = some (.bool false) := (blk_cell BK369.out 2).trans rfl; have hfz18_0 := blk_frozen BK369.out 0; have hfz18_1 := blk_frozen BK369.out 1; have hfz18_2 := blk_frozen BK369.out 2) | ((with_reducible refine gate_dst (N := 19) rfl ?_); refine Kd.N_lit k28 _ 28 ?hg (N' := 19) ?hd (xs := ([(⟨a0_0, l0_1⟩ : S28), (⟨1, ([] : List (S47))⟩ : S28)] : List (S28))) (inner := [.int .i64 a0_0, .slice A0_1 l0_1.length c0_1, .int .i64 1, .slice none 0 0]) (ok := (fun k_ => (P0_1_ k_ ∨ w.heap.size ≤ k_) ∧ k_ ≠ gb369 ∧ k_ ≠ gb370)) (okp := (fun k_ => (P0_1_ k_ ∨ w.heap.size ≤ k_) ∧ k_ ≠ gb369 ∧ k_ ≠ gb370)) ?hr ?hp (fun _ hk => hk) ((show ∀ k_, w17.heap.size ≤ k_ → (fun k_ => (P0_1_ k_ ∨ w.heap.size ≤ k_) ∧ k_ ≠ gb369 ∧ k_ ≠ gb370) k_ from fun k_ hk => ⟨(.inr (Nat.le_trans (below_size (zo HB)) hk)), Kd.freshB (g := gb369) (o := .cells #[.int .i64 a0_0, .slice A0_1 l0_1.length c0_1, .bool false] 30 (0, 0)) (zb BK369) k_ hk, Kd.freshB (g := gb370) (o := .cells #[.int .i64 0, .slice none 0 0, .bool false] 30 (0, 0)) (zb BK370) k_ hk⟩) _ (Nat.le_refl _)) (Below.refl _ _) (Nat.le_refl _) (by simp) ?_; (case hd => rfl); (case hg => rfl); (case hr => first | (go_simp; done) | (go_simp; rfl)); (case hp => exact (Reps.c2 (show Kd.FK k28 _ _ (⟨a0_0, l0_1⟩ : S28) [.int .i64 a0_0, .slice A0_1 l0_1.length c0_1] from (k28_mkF _ _ (⟨a0_0, l0_1⟩ : S28) (Kd.V_reads' (vM (ok' := (fun k_ => (P0_1_ k_ ∨ w.heap.size ≤ k_) ∧ k_ ≠ gb369 ∧ k_ ≠ gb370)) (HO0_1.out) (fun k_ hk => ⟨hk.1.1, ⟨hk.1.2, hk.2⟩⟩))).2.1 (Kd.V_F (vM (ok' := (fun k_ => (P0_1_ k_ ∨ w.heap.size ≤ k_) ∧ k_ ≠ gb369 ∧ k_ ≠ gb370)) (HO0_1.out) (fun k_ hk => ⟨hk.1.1, ⟨hk.1.2, hk.2⟩⟩))))) (Reps.c2 (show Kd.FK k28 _ _ (⟨1, ([] : List (S47))⟩ : S28) [.int .i64 1, .slice none 0 0] from (k28_mkF _ _ (⟨1, ([] : List (S47))⟩ : S28) (Nat.le_refl _) (Kd.F_nil _ _ _))) (Reps.none _ _)))); intro v373 w19 ho20 hb hg_ hnew_; clear hg_ hnew_; (first | rw [← Ny372.out] at ho20 | (simp only [Int.reduceToNat] at ho20; rw [← Ny372.out] at ho20)); replace HO0_1 := zK (Kd.V_elder' (zv HO0_1) (Kd.N_base ho20) hb); have HO374 := zK (Kd.N_lower ho20 (below_size (zo HB))); replace BK369 := zK (blk_below (g := gb369) (o := .cells #[.int .i64 a0_0, .slice A0_1 l0_1.length c0_1, .bool false] 30 (0, 0)) (zb BK369) hb); replace BK370 := zK (blk_below (g := gb370) (o := .cells #[.int .i64 0, .slice none 0 0, .bool false] 30 (0, 0)) (zb BK370) hb); replace HB := zK (below_step (zo HB) hb); clear hb ho20) | ((with_reducible refine gate_dst (N := 20) rfl ?_); refine Kd.R_lit (Kd.int .i64) _ 2 ?hg (N := 20) ?hd (xs := ([(-1), 1] : List Int)) (inner := [.int .i64 (-1), .int .i64 1]) (ok := fun _ => True) (okp := fun _ => True) ?hr ?hp (fun _ hk => hk) trivial (Below.refl _ _) (Nat.le_refl _) (by simp) ?_; (case hd => rfl); (case hg => rfl); (case hr => first | (go_simp; done) | (go_simp; rfl)); (case hp => exact (Reps.one (show Kd.M (Kd.int .i64) _ _ _ (-1) [.int .i64 (-1)] from rfl) (Reps.one (show Kd.M (Kd.int .i64) _ _ _ 1 [.int .i64 1] from rfl) (Reps.none _ _)))); intro v376 w21 ho22 hb hg_ hnew_; clear hg_ hnew_; (first | rw [← Ny375.out] at ho22 | (simp only [Int.reduceToNat] at ho22; rw [← Ny375.out] at ho22)); replace HO0_1 := zK (Kd.V_elder' (zv HO0_1) (Kd.R_base ho22) hb); replace HO374 := zK (Kd.N_elder' (zn HO374) (Kd.R_base ho22) hb); have HO377 := zK (Kd.R_lower (Kd.R_newM (M := fun k_ => (w.heap.size ≤ k_)) ho22 (below_size (zo HB)) (fun k_ h_ => h_)) (below_size (zo HB))); replace BK369 := zK (blk_below (g := gb369) (o := .cells #[.int .i64 a0_0, .slice A0_1 l0_1.length c0_1, .bool false] 30 (0, 0)) (zb BK369) hb); replace BK370 := zK (blk_below (g := gb370) (o := .cells #[.int .i64 0, .slice none 0 0, .bool false] 30 (0, 0)) (zb BK370) hb); replace HB := zK (below_step (zo HB) hb); clear hb ho22; obtain ⟨Ao23, co23, eo23⟩ := Kd.N_slice HO374.out; subst eo23; obtain ⟨Ao24, co24, eo24⟩ := Kd.R_slice HO377.out; subst eo24) | ((with_reducible refine zC (f := 32) rfl ?_); refine goesL_ (some 21) rfl rfl Try.func32 (by kernel_rfl) rfl #[.slice Ao23 y372.length co23, .slice Ao24 y375.length co24] rfl (by (try simp only [List.map_toArray, List.map_cons, List.map_nil]); first | done | rfl | (simp only [List.length_drop, List.length_take]; rfl)) ?_; (with_reducible refine (sequiturref28_Lin.calls k _ _ y372 _ _ y375 t378 t379 t382 _ ?side1 ?side2 ?side3 ?side4 A12.out).mono ?_); (case side1 => repeat (first | exact (Kd.N_reads' HO374.out).2.2 | (with_reducible refine cA ?_ _) | (with_reducible refine cN ?_ _) | (with_reducible refine cD ?_))); (case side2 => exact (Kd.N_reads' HO374.out).2.1); (case side3 => repeat (first | exact (Kd.R_reads' HO377.out).2.2 | (with_reducible refine cA ?_ _) | (with_reducible refine cN ?_ _) | (with_reducible refine cD ?_))); (case side4 => exact (Kd.R_reads' HO377.out).2.1); rintro e w25 ⟨v380, rfl, ho0, hb⟩; refine ⟨_, rfl, ?_⟩; replace HO0_1 := zK (Kd.V_elder' (zv HO0_1) (Kd.R_base ho0) hb); replace HO374 := zK (Kd.N_elder' (zn HO374) (Kd.R_base ho0) hb); replace HO377 := zK (Kd.R_below (zr HO377) hb); have HO381 := zK (Kd.R_lower (Kd.R_newM (M := fun k_ => (w.heap.size ≤ k_)) ho0 (below_size (zo HB)) (fun k_ h_ => h_)) (below_size (zo HB))); replace BK369 := zK (blk_below (g := gb369) (o := .cells #[.int .i64 a0_0, .slice A0_1 l0_1.length c0_1, .bool false] 30 (0, 0)) (zb BK369) hb); replace BK370 := zK (blk_below (g := gb370) (o := .cells #[.int .i64 0, .slice none 0 0, .bool false] 30 (0, 0)) (zb BK370) hb); replace HB := zK (below_step (zo HB) hb); (try clear hb); (try clear hb2); (try clear hk); (try clear hi); (try clear ho0)) | ((with_reducible refine gate_dst (N := 4) rfl ?_); refine box_event ?hg (N := 4) ?hd (cs := #[.int .i64 0, .slice none 0 0]) (t := 28) ?hr ?_; (case hd => rfl); (case hg => rfl); (case hr => first | (go_simp; done) | (go_simp; rfl)); intro gb383 hg w26 hbox hb; replace HO0_1 := zK (Kd.V_below (Kd.V_elderB (zv HO0_1) gb383 (Nat.le_of_eq hg.symm)) hb); replace HO374 := zK (Kd.N_below (Kd.N_elderB (zn HO374) gb383 (Nat.le_of_eq hg.symm)) hb); replace HO377 := zK (Kd.R_below (zr HO377) hb); replace HO381 := zK (Kd.R_below (zr HO381) hb); have BK383 := zK (hbox); have GW383 := zK ((by rw [hg]; exact (below_size (zo HB)) : w.heap.size ≤ gb383)); have GE383 := zK ((by rw [hg]; exact (below_size (zo HB)) : w.heap.size ≤ gb383)); replace HB := zK (below_step (zo HB) hb); have NB369_383 := zK ((by rw [hg]; exact Nat.ne_of_lt (blk_lt (g := gb369) (o := .cells #[.int .i64 a0_0, .slice A0_1 l0_1.length c0_1, .bool false] 30 (0, 0)) (zb BK369)) : gb369 ≠ gb383)); have NB383_369 := zK ((by rw [hg]; exact Nat.ne_of_gt (blk_lt (g := gb369) (o := .cells #[.int .i64 a0_0, .slice A0_1 l0_1.length c0_1, .bool false] 30 (0, 0)) (zb BK369)) : gb383 ≠ gb369)); replace BK369 := zK (blk_below (g := gb369) (o := .cells #[.int .i64 a0_0, .slice A0_1 l0_1.length c0_1, .bool false] 30 (0, 0)) (zb BK369) hb); have NB370_383 := zK ((by rw [hg]; exact Nat.ne_of_lt (blk_lt (g := gb370) (o := .cells #[.int .i64 0, .slice none 0 0, .bool false] 30 (0, 0)) (zb BK370)) : gb370 ≠ gb383)); have NB383_370 := zK ((by rw [hg]; exact Nat.ne_of_gt (blk_lt (g := gb370) (o := .cells #[.int .i64 0, .slice none 0 0, .bool false] 30 (0, 0)) (zb BK370)) : gb383 ≠ gb370)); replace BK370 := zK (blk_below (g := gb370) (o := .cells #[.int .i64 0, .slice none 0 0, .bool false] 30 (0, 0)) (zb BK370) hb); clear hb hbox hg; have hnb27 := NB383_369.out; have hnc27 := NB369_383.out; have hnb28 := NB383_370.out; have hnc28 := NB370_383.out; have hcz29_0 : w26.cell? ⟨gb383, 0, none⟩ = some (.int .i64 0) := (blk_cell BK383.out 0).trans rfl; have hcz29_1 : w26.cell? ⟨gb383, 1, none⟩ = some (.slice none 0 0) := (blk_cell BK383.out 1).trans rfl; have hfz29_0 := blk_frozen BK383.out 0; have hfz29_1 := blk_frozen BK383.out 1; obtain ⟨Ao30, co30, eo30⟩ := Kd.R_slice HO381.out; subst eo30; have hcz31_0 : w26.cell? ⟨gb370, 0, none⟩ = some (.int .i64 0) := (blk_cell BK370.out 0).trans rfl; have hcz31_1 : w26.cell? ⟨gb370, 1, none⟩ = some (.slice none 0 0) := (blk_cell BK370.out 1).trans rfl; have hcz31_2 : w26.cell? ⟨gb370, 2, none⟩ = some (.bool false) := (blk_cell BK370.out 2).trans rfl; have hfz31_0 := blk_frozen BK370.out 0; have hfz31_1 := blk_frozen BK370.out 1; have hfz31_2 := blk_frozen BK370.out 2))
   refine bodyPost_ret (results_ct rfl _ _ gb370 30 #[.int .i64 t378, .slice Ao30 t379.length co30, .bool false] (0, 0) _ rfl (by refine zM ?_; refine blk_put (cs := #[.int .i64 t378, .slice Ao30 t379.length co30, .bool false]) ?_ 2 _ rfl; refine zM ?_; refine blk_put (cs := #[.int .i64 t378, .slice none 0 0, .bool false]) ?_ 1 _ rfl; refine zM ?_; refine blk_put (cs := #[.int .i64 0, .slice none 0 0, .bool false]) ?_ 0 _ rfl; refine zM ?_; refine blk_far ?_ NB370_383.out _; refine zM ?_; refine blk_far ?_ NB370_383.out _; refine zM ?_; exact BK370.out) Try.underlying30 rfl (by kernel_rfl)) rfl ?_
   exact ⟨_, by first | rfl | (simp [errW_none, errW_some] <;> rfl) | (simp [*, errW_none, errW_some] <;> rfl), by (with_reducible repeat (first | apply Kd.R_alloc | apply Kd.R_drewN | apply Kd.R_drew)); exact Kd.R_mono (Kd.R_far (p := ⟨gb370, 2, none⟩) (Kd.R_far (p := ⟨gb370, 1, none⟩) (Kd.R_far (p := ⟨gb370, 0, none⟩) (Kd.R_far (p := ⟨gb383, 1, none⟩) (Kd.R_far (p := ⟨gb383, 0, none⟩) (Kd.R_types (Kd.R_types HO381.out BK383.out (by decide)) BK370.out (by decide)) (fun _ hk => hk.1.2) (.int .i64 t378)) (fun _ hk => hk.1.2) (.slice Ao30 t379.length co30)) (fun _ hk => hk.2) (.int .i64 t378)) (fun _ hk => hk.2) (.slice Ao30 t379.length co30)) (fun _ hk => hk.2) (.bool false)) (fun _ hk => hk.1.1.1), zo HB⟩
 ·replace c3 := Bool.eq_false_iff.mpr c3
  subst c3
  have H1 : (some (0, ([] : List (S47)), false, 1)) = some (r1, r2, r3, r4) := by rw [if_neg (show ¬ (false = true) by decide)] at H; exact H
  clear H
  have H := H1
  clear H1
  simp only [Option.some.injEq, Prod.mk.injEq] at H
  obtain ⟨rfl, rfl, rfl, rfl⟩ := H
  go_enter Try.func24, Try.ntmps24
  go_wp2_with (first | ((with_reducible refine gate_dst (N := 1) rfl ?_); refine box_event ?hg (N := 1) ?hd (cs := #[.int .i64 a0_0, .slice A0_1 l0_1.length c0_1, .bool a0_2]) (t := 30) ?hr ?_; (case hd => rfl); (case hg => rfl); (case hr => first | (go_simp; done) | (go_simp; rfl)); intro gb369 hg w32 hbox hb; replace HO0_1 := zK (Kd.V_below (Kd.V_elderB (zv HO0_1) gb369 (Nat.le_of_eq hg.symm)) hb); have BK369 := zK (hbox); have GW369 := zK ((by rw [hg]; exact (below_size (zo HB)) : w.heap.size ≤ gb369)); have GE369 := zK ((by rw [hg]; exact (below_size (zo HB)) : w.heap.size ≤ gb369)); replace HB := zK (below_step (zo HB) hb); clear hb hbox hg) | ((with_reducible refine gate_dst (N := 2) rfl ?_); refine box_event ?hg (N := 2) ?hd (cs := #[.int .i64 0, .slice none 0 0, .bool false]) (t := 30) ?hr ?_; (case hd => rfl); (case hg => rfl); (case hr => first | (go_simp; done) | (go_simp; rfl)); intro gb370 hg w33 hbox hb; replace HO0_1 := zK (Kd.V_below (Kd.V_elderB (zv HO0_1) gb370 (Nat.le_of_eq hg.symm)) hb); have BK370 := zK (hbox); have GW370 := zK ((by rw [hg]; exact (below_size (zo HB)) : w.heap.size ≤ gb370)); have GE370 := zK ((by rw [hg]; exact (below_size (zo HB)) : w.heap.size ≤ gb370)); replace HB := zK (below_step (zo HB) hb); have NB369_370 := zK ((by rw [hg]; exact Nat.ne_of_lt (blk_lt (g := gb369) (o := .cells #[.int .i64 a0_0, .slice A0_1 l0_1.length c0_1, .bool a0_2] 30 (0, 0)) (zb BK369)) : gb369 ≠ gb370)); have NB370_369 := zK ((by rw [hg]; exact Nat.ne_of_gt (blk_lt (g := gb369) (o := .cells #[.int .i64 a0_0, .slice A0_1 l0_1.length c0_1, .bool a0_2] 30 (0, 0)) (zb BK369)) : gb370 ≠ gb369)); replace BK369 := zK (blk_below (g := gb369) (o := .cells #[.int .i64 a0_0, .slice A0_1 l0_1.length c0_1, .bool a0_2] 30 (0, 0)) (zb BK369) hb); clear hb hbox hg; have hnb34 := NB369_370.out; have hnc34 := NB370_369.out; have hcz35_0 : w33.cell? ⟨gb369, 0, none⟩ = some (.int .i64 a0_0) := (blk_cell BK369.out 0).trans rfl; have hcz35_1 : w33.cell? ⟨gb369, 1, none⟩ = some (.slice A0_1 l0_1.length c0_1) := (blk_cell BK369.out 1).trans rfl; have hcz35_2 : w33.cell? ⟨gb369, 2, none⟩ = some (.bool a0_2) := (blk_cell BK369.out 2).trans rfl; have hfz35_0 := blk_frozen BK369.out 0; have hfz35_1 := blk_frozen BK369.out 1; have hfz35_2 := blk_frozen BK369.out 2) | ((with_reducible refine zC (f := 17) rfl ?_); refine goesL_ (some 8) rfl rfl Try.func17 (by kernel_rfl) rfl #[.agg #[.int .i64 a0_0, .slice A0_1 l0_1.length c0_1]] rfl (by (try simp only [List.map_toArray, List.map_cons, List.map_nil]); first | done | rfl | (simp only [List.length_drop, List.length_take]; rfl)) ?_; (with_reducible refine (sequiturref28_Form.calls k a0_0 _ _ l0_1 false _ ?side1 ?side2 A2.out).mono ?_); (case side1 => repeat (first | exact (Kd.V_reads' HO0_1.out).2.2 | (with_reducible refine cA ?_ _) | (with_reducible refine cN ?_ _) | (with_reducible refine cD ?_))); (case side2 => exact (Kd.V_reads' HO0_1.out).2.1); rintro e w36 ⟨rfl, hb⟩; refine ⟨_, rfl, ?_⟩; replace HO0_1 := zK (Kd.V_below (zv HO0_1) hb); replace BK369 := zK (blk_below (g := gb369) (o := .cells #[.int .i64 a0_0, .slice A0_1 l0_1.length c0_1, .bool a0_2] 30 (0, 0)) (zb BK369) hb); replace BK370 := zK (blk_below (g := gb370) (o := .cells #[.int .i64 0, .slice none 0 0, .bool false] 30 (0, 0)) (zb BK370) hb); replace HB := zK (below_step (zo HB) hb); (try clear hb); (try clear hb2); (try clear hk); (try clear hi); have hcz37_0 : w36.cell? ⟨gb370, 0, none⟩ = some (.int .i64 0) := (blk_cell BK370.out 0).trans rfl; have hcz37_1 : w36.cell? ⟨gb370, 1, none⟩ = some (.slice none 0 0) := (blk_cell BK370.out 1).trans rfl; have hcz37_2 : w36.cell? ⟨gb370, 2, none⟩ = some (.bool false) := (blk_cell BK370.out 2).trans rfl; have hfz37_0 := blk_frozen BK370.out 0; have hfz37_1 := blk_frozen BK370.out 1; have hfz37_2 := blk_frozen BK370.out 2))
  refine bodyPost_ret (results_ct rfl _ _ gb370 30 #[.int .i64 0, .slice none 0 0, .bool false] (0, 0) _ rfl (by refine zM ?_; refine blk_put (cs := #[.int .i64 0, .slice none 0 0, .bool false]) ?_ 2 _ rfl; refine zM ?_; refine blk_put (cs := #[.int .i64 0, .slice none 0 0, .bool false]) ?_ 1 _ rfl; refine zM ?_; refine blk_put (cs := #[.int .i64 0, .slice none 0 0, .bool false]) ?_ 0 _ rfl; refine zM ?_; exact BK370.out) Try.underlying30 rfl (by kernel_rfl)) rfl ?_
  exact ⟨_, by first | rfl | (simp [errW_none, errW_some] <;> rfl) | (simp [*, errW_none, errW_some] <;> rfl), by first | exact Kd.R_nil _ _ _ _ _ | exact Kd.N_nil _ _ _ _ _ | exact Kd.V_nil _ _ _ _ _ | exact Kd.Q_nil _ _ _ _ _ | exact Kd.S_nil _ _ _ _ _, zo HB⟩

/-! ### sequiturref01_Neg: function 80 -/
def sequiturref01_Neg.f (a0 : Int) : Option (Int × Bool) := (sequiturref01_Of.f a0).bind fun bt384 => ((sequiturref01_Minus.f bt384.1 bt384.2).bind fun bt386 => ((sequiturref01_Fits.f bt386.1 bt386.2).bind fun bt388 => (some (bt388.1, bt388.2))))
set_option maxHeartbeats 8000000 in
set_option maxRecDepth 100000 in
theorem sequiturref01_Neg.calls (a0 : Int) (r1 : Int) (r2 : Bool) (w : World) (h : sequiturref01_Neg.f a0 = some (r1, r2)) :
  Calls Try.prog 80 #[.int .i64 a0] w fun e w' => e = .returned (.tuple #[.int .i64 r1, .bool r2]) ∧ Below w.heap.size w w' := by
 have HB := zK (Below.refl w.heap.size w)
 have H : ((sequiturref01_Of.f a0).bind fun bt384 => ((sequiturref01_Minus.f bt384.1 bt384.2).bind fun bt386 => ((sequiturref01_Fits.f bt386.1 bt386.2).bind fun bt388 => (some (bt388.1, bt388.2))))) = some (r1, r2) := h
 clear h
 replace H := Option.bind_eq_some_iff.mp H
 obtain ⟨⟨t384, t385⟩, A20, H⟩ := H
 replace H : ((sequiturref01_Minus.f t384 t385).bind fun bt386 => ((sequiturref01_Fits.f bt386.1 bt386.2).bind fun bt388 => (some (bt388.1, bt388.2)))) = some (r1, r2) := H
 have A2 := zK A20
 clear A20
 replace H := Option.bind_eq_some_iff.mp H
 obtain ⟨⟨t386, t387⟩, A30, H⟩ := H
 replace H : ((sequiturref01_Fits.f t386 t387).bind fun bt388 => (some (bt388.1, bt388.2))) = some (r1, r2) := H
 have A3 := zK A30
 clear A30
 replace H := Option.bind_eq_some_iff.mp H
 obtain ⟨⟨t388, t389⟩, A40, H⟩ := H
 replace H : (some (t388, t389)) = some (r1, r2) := H
 have A4 := zK A40
 clear A40
 simp only [Option.some.injEq, Prod.mk.injEq] at H
 obtain ⟨rfl, rfl⟩ := H
 go_enter Try.func80, Try.ntmps80
 go_wp2_with (first | ((with_reducible refine zC (f := 66) rfl ?_); refine goesL_ (some 5) rfl rfl Try.func66 (by kernel_rfl) rfl #[.int .i64 a0] rfl (by (try simp only [List.map_toArray, List.map_cons, List.map_nil]); first | done | rfl | (simp only [List.length_drop, List.length_take]; rfl)) ?_; (with_reducible refine (sequiturref01_Of.calls a0 t384 t385 _ A2.out).mono ?_); rintro e w5 ⟨rfl, hb⟩; refine ⟨_, rfl, ?_⟩; replace HB := zK (below_step (zo HB) hb); (try clear hb); (try clear hb2); (try clear hk); (try clear hi)) | ((with_reducible refine zC (f := 79) rfl ?_); refine goesL_ (some 6) rfl rfl Try.func79 (by kernel_rfl) rfl #[.agg #[.int .i64 t384, .int .u64 t385]] rfl (by (try simp only [List.map_toArray, List.map_cons, List.map_nil]); first | done | rfl | (simp only [List.length_drop, List.length_take]; rfl)) ?_; (with_reducible refine (sequiturref01_Minus.calls t384 t385 t386 t387 _ A3.out).mono ?_); rintro e w6 ⟨rfl, hb⟩; refine ⟨_, rfl, ?_⟩; replace HB := zK (below_step (zo HB) hb); (try clear hb); (try clear hb2); (try clear hk); (try clear hi)) | ((with_reducible refine zC (f := 67) rfl ?_); refine goesL_ (some 7) rfl rfl Try.func67 (by kernel_rfl) rfl #[.agg #[.int .i64 t386, .int .u64 t387]] rfl (by (try simp only [List.map_toArray, List.map_cons, List.map_nil]); first | done | rfl | (simp only [List.length_drop, List.length_take]; rfl)) ?_; (with_reducible refine (sequiturref01_Fits.calls t386 t387 t388 t389 _ A4.out).mono ?_); rintro e w7 ⟨rfl, hb⟩; refine ⟨_, rfl, ?_⟩; replace HB := zK (below_step (zo HB) hb); (try clear hb); (try clear hb2); (try clear hk); (try clear hi)))
 go_ret2
 exact ⟨by first | rfl | (simp [errW_none, errW_some] <;> rfl) | (simp [*, errW_none, errW_some] <;> rfl), zo HB⟩

/-! ### sequiturref01_Div: function 68 -/
def sequiturref01_Div.f (a0 : Int) (a1 : Int) : Option (Int × Bool) := if a1 = 0 then (some (0, false)) else (if a1 = (-1) then ((sequiturref01_Neg.f a0).bind fun bt390 => (some (bt390.1, bt390.2))) else (if (Int.tmod a0 a1) = 0 then (some (wrap64 (Int.tdiv a0 a1), true)) else (if ((decide (a0 < 0)) != (decide (a1 < 0))) = true then (some (wrap64 ((wrap64 (Int.tdiv a0 a1)) - 1), true)) else (some (wrap64 (Int.tdiv a0 a1), true)))))
set_option maxHeartbeats 8000000 in
set_option maxRecDepth 100000 in
theorem sequiturref01_Div.calls (a0 : Int) (a1 : Int) (r1 : Int) (r2 : Bool) (w : World) (h : sequiturref01_Div.f a0 a1 = some (r1, r2)) :
  Calls Try.prog 68 #[.int .i64 a0, .int .i64 a1] w fun e w' => e = .returned (.tuple #[.int .i64 r1, .bool r2]) ∧ Below w.heap.size w w' := by
 have HB := zK (Below.refl w.heap.size w)
 have H : (if a1 = 0 then (some (0, false)) else (if a1 = (-1) then ((sequiturref01_Neg.f a0).bind fun bt390 => (some (bt390.1, bt390.2))) else (if (Int.tmod a0 a1) = 0 then (some (wrap64 (Int.tdiv a0 a1), true)) else (if ((decide (a0 < 0)) != (decide (a1 < 0))) = true then (some (wrap64 ((wrap64 (Int.tdiv a0 a1)) - 1), true)) else (some (wrap64 (Int.tdiv a0 a1), true)))))) = some (r1, r2) := h
 clear h
 by_cases c3 : a1 = 0
 ·rw [if_pos c3] at H
  have c3b0 : (a1 == 0) = true := beq_iff_eq.mpr c3
  have c3b1 : (a1 != 0) = false := bne_eq_false_iff_eq.mpr c3
  clear c3
  simp only [Option.some.injEq, Prod.mk.injEq] at H
  obtain ⟨rfl, rfl⟩ := H
  go_enter Try.func68, Try.ntmps68
  go_wp2
  go_ret2
  exact ⟨by first | rfl | (simp [errW_none, errW_some] <;> rfl) | (simp [*, errW_none, errW_some] <;> rfl), zo HB⟩
 ·rw [if_neg c3] at H
  have c3b0 : (a1 == 0) = false := beq_eq_false_iff_ne.mpr c3
  have c3b1 : (a1 != 0) = true := bne_iff_ne.mpr c3
  by_cases c4 : a1 = (-1)
  ·rw [if_pos c4] at H
   have c4b0 : (a1 == (-1)) = true := beq_iff_eq.mpr c4
   have c4b1 : (a1 != (-1)) = false := bne_eq_false_iff_eq.mpr c4
   clear c4
   replace H := Option.bind_eq_some_iff.mp H
   obtain ⟨⟨t390, t391⟩, A50, H⟩ := H
   replace H : (some (t390, t391)) = some (r1, r2) := H
   have A5 := zK A50
   clear A50
   simp only [Option.some.injEq, Prod.mk.injEq] at H
   obtain ⟨rfl, rfl⟩ := H
   go_enter Try.func68, Try.ntmps68
   go_wp2_with (first | ((with_reducible refine zC (f := 80) rfl ?_); refine goesL_ (some 12) rfl rfl Try.func80 (by kernel_rfl) rfl #[.int .i64 a0] rfl (by (try simp only [List.map_toArray, List.map_cons, List.map_nil]); first | done | rfl | (simp only [List.length_drop, List.length_take]; rfl)) ?_; (with_reducible refine (sequiturref01_Neg.calls a0 t390 t391 _ A5.out).mono ?_); rintro e w6 ⟨rfl, hb⟩; refine ⟨_, rfl, ?_⟩; replace HB := zK (below_step (zo HB) hb); (try clear hb); (try clear hb2); (try clear hk); (try clear hi)))
   go_ret2
   exact ⟨by first | rfl | (simp [errW_none, errW_some] <;> rfl) | (simp [*, errW_none, errW_some] <;> rfl), zo HB⟩
  ·rw [if_neg c4] at H
   have c4b0 : (a1 == (-1)) = false := beq_eq_false_iff_ne.mpr c4
   have c4b1 : (a1 != (-1)) = true := bne_iff_ne.mpr c4
   by_cases c7 : (Int.tmod a0 a1) = 0
   ·rw [if_pos c7] at H
    have c7b0 : ((Int.tmod a0 a1) == 0) = true := beq_iff_eq.mpr c7
    have c7b1 : ((Int.tmod a0 a1) != 0) = false := bne_eq_false_iff_eq.mpr c7
    clear c7
    simp only [Option.some.injEq, Prod.mk.injEq] at H
    obtain ⟨rfl, rfl⟩ := H
    go_enter Try.func68, Try.ntmps68
    go_wp2
    go_ret2
    exact ⟨by first | rfl | (simp [errW_none, errW_some] <;> rfl) | (simp [*, errW_none, errW_some] <;> rfl), zo HB⟩
   ·rw [if_neg c7] at H
    have c7b0 : ((Int.tmod a0 a1) == 0) = false := beq_eq_false_iff_ne.mpr c7
    have c7b1 : ((Int.tmod a0 a1) != 0) = true := bne_iff_ne.mpr c7
    by_cases c8 : ((decide (a0 < 0)) != (decide (a1 < 0))) = true
    ·rw [if_pos c8] at H
     have c8b0 : ((decide (a0 < 0)) != (decide (a1 < 0))) = true := c8
     (try (have c8b1 : decide ((decide (a0 < 0)) = (decide (a1 < 0))) = false := by simpa using c8))
     (try (have c8b2 : ((decide (a0 < 0)) == (decide (a1 < 0))) = false := by simpa using c8))
     (try (have c8b3 : ¬ ((decide (a0 < 0)) = (decide (a1 < 0))) := by simpa using c8))
     clear c8
     simp only [Option.some.injEq, Prod.mk.injEq] at H
     obtain ⟨rfl, rfl⟩ := H
     go_enter Try.func68, Try.ntmps68
     go_wp2
     go_ret2
     exact ⟨by first | rfl | (simp [errW_none, errW_some] <;> rfl) | (simp [*, errW_none, errW_some] <;> rfl), zo HB⟩
    ·rw [if_neg c8] at H
     have c8b0 : ((decide (a0 < 0)) != (decide (a1 < 0))) = false := by simpa using c8
     (try (have c8b1 : decide ((decide (a0 < 0)) = (decide (a1 < 0))) = true := by simpa using c8))
     (try (have c8b2 : ((decide (a0 < 0)) == (decide (a1 < 0))) = true := by simpa using c8))
     clear c8
     simp only [Option.some.injEq, Prod.mk.injEq] at H
     obtain ⟨rfl, rfl⟩ := H
     go_enter Try.func68, Try.ntmps68
     go_wp2
     go_ret2
     exact ⟨by first | rfl | (simp [errW_none, errW_some] <;> rfl) | (simp [*, errW_none, errW_some] <;> rfl), zo HB⟩

/-! ### sequiturref01_Mod: function 69 -/
def sequiturref01_Mod.f (a0 : Int) (a1 : Int) : Option (Int × Bool) := if a1 = 0 then (some (0, false)) else (if a1 = (-1) then (some (0, true)) else (if (Int.tmod a0 a1) = 0 then (some (Int.tmod a0 a1, true)) else (if ((decide ((Int.tmod a0 a1) < 0)) != (decide (a1 < 0))) = true then (some (wrap64 ((Int.tmod a0 a1) + a1), true)) else (some (Int.tmod a0 a1, true)))))
set_option maxHeartbeats 8000000 in
set_option maxRecDepth 100000 in
theorem sequiturref01_Mod.calls (a0 : Int) (a1 : Int) (r1 : Int) (r2 : Bool) (w : World) (h : sequiturref01_Mod.f a0 a1 = some (r1, r2)) :
  Calls Try.prog 69 #[.int .i64 a0, .int .i64 a1] w fun e w' => e = .returned (.tuple #[.int .i64 r1, .bool r2]) ∧ Drawn0 w w' := by
 have H : (if a1 = 0 then (some (0, false)) else (if a1 = (-1) then (some (0, true)) else (if (Int.tmod a0 a1) = 0 then (some (Int.tmod a0 a1, true)) else (if ((decide ((Int.tmod a0 a1) < 0)) != (decide (a1 < 0))) = true then (some (wrap64 ((Int.tmod a0 a1) + a1), true)) else (some (Int.tmod a0 a1, true)))))) = some (r1, r2) := h
 clear h
 by_cases c3 : a1 = 0
 ·rw [if_pos c3] at H
  have c3b0 : (a1 == 0) = true := beq_iff_eq.mpr c3
  have c3b1 : (a1 != 0) = false := bne_eq_false_iff_eq.mpr c3
  clear c3
  simp only [Option.some.injEq, Prod.mk.injEq] at H
  obtain ⟨rfl, rfl⟩ := H
  go_enter Try.func69, Try.ntmps69
  go_wp2
  go_ret2
  exact ⟨by first | rfl | (simp; done) | (simp [*]; done), by repeat (first | exact Drawn0.refl _ | apply Drawn0.step)⟩
 ·rw [if_neg c3] at H
  have c3b0 : (a1 == 0) = false := beq_eq_false_iff_ne.mpr c3
  have c3b1 : (a1 != 0) = true := bne_iff_ne.mpr c3
  by_cases c4 : a1 = (-1)
  ·rw [if_pos c4] at H
   have c4b0 : (a1 == (-1)) = true := beq_iff_eq.mpr c4
   have c4b1 : (a1 != (-1)) = false := bne_eq_false_iff_eq.mpr c4
   clear c4
   simp only [Option.some.injEq, Prod.mk.injEq] at H
   obtain ⟨rfl, rfl⟩ := H
   go_enter Try.func69, Try.ntmps69
   go_wp2
   go_ret2
   exact ⟨by first | rfl | (simp; done) | (simp [*]; done), by repeat (first | exact Drawn0.refl _ | apply Drawn0.step)⟩
  ·rw [if_neg c4] at H
   have c4b0 : (a1 == (-1)) = false := beq_eq_false_iff_ne.mpr c4
   have c4b1 : (a1 != (-1)) = true := bne_iff_ne.mpr c4
   by_cases c5 : (Int.tmod a0 a1) = 0
   ·rw [if_pos c5] at H
    have c5b0 : ((Int.tmod a0 a1) == 0) = true := beq_iff_eq.mpr c5
    have c5b1 : ((Int.tmod a0 a1) != 0) = false := bne_eq_false_iff_eq.mpr c5
    clear c5
    simp only [Option.some.injEq, Prod.mk.injEq] at H
    obtain ⟨rfl, rfl⟩ := H
    go_enter Try.func69, Try.ntmps69
    go_wp2
    go_ret2
    exact ⟨by first | rfl | (simp; done) | (simp [*]; done), by repeat (first | exact Drawn0.refl _ | apply Drawn0.step)⟩
   ·rw [if_neg c5] at H
    have c5b0 : ((Int.tmod a0 a1) == 0) = false := beq_eq_false_iff_ne.mpr c5
    have c5b1 : ((Int.tmod a0 a1) != 0) = true := bne_iff_ne.mpr c5
    by_cases c6 : ((decide ((Int.tmod a0 a1) < 0)) != (decide (a1 < 0))) = true
    ·rw [if_pos c6] at H
     have c6b0 : ((decide ((Int.tmod a0 a1) < 0)) != (decide (a1 < 0))) = true := c6
     (try (have c6b1 : decide ((decide ((Int.tmod a0 a1) < 0)) = (decide (a1 < 0))) = false := by simpa using c6))
     (try (have c6b2 : ((decide ((Int.tmod a0 a1) < 0)) == (decide (a1 < 0))) = false := by simpa using c6))
     (try (have c6b3 : ¬ ((decide ((Int.tmod a0 a1) < 0)) = (decide (a1 < 0))) := by simpa using c6))
     clear c6
     simp only [Option.some.injEq, Prod.mk.injEq] at H
     obtain ⟨rfl, rfl⟩ := H
     go_enter Try.func69, Try.ntmps69
     go_wp2
     go_ret2
     exact ⟨by first | rfl | (simp; done) | (simp [*]; done), by repeat (first | exact Drawn0.refl _ | apply Drawn0.step)⟩
    ·rw [if_neg c6] at H
     have c6b0 : ((decide ((Int.tmod a0 a1) < 0)) != (decide (a1 < 0))) = false := by simpa using c6
     (try (have c6b1 : decide ((decide ((Int.tmod a0 a1) < 0)) = (decide (a1 < 0))) = true := by simpa using c6))
     (try (have c6b2 : ((decide ((Int.tmod a0 a1) < 0)) == (decide (a1 < 0))) = true := by simpa using c6))
     clear c6
     simp only [Option.some.injEq, Prod.mk.injEq] at H
     obtain ⟨rfl, rfl⟩ := H
     go_enter Try.func69, Try.ntmps69
     go_wp2
     go_ret2
     exact ⟨by first | rfl | (simp; done) | (simp [*]; done), by repeat (first | exact Drawn0.refl _ | apply Drawn0.step)⟩

/-! ### sequiturref01_Ceil: function 54 -/
def sequiturref01_Ceil.f (a0 : Int) (a1 : Int) : Option (Int × Bool) := (sequiturref01_Div.f a0 a1).bind fun bt392 => ((sequiturref01_Mod.f a0 a1).bind fun bt394 => (if bt392.2 = true then (if bt394.1 = 0 then (some (bt392.1, bt392.2)) else (some (wrap64 (bt392.1 + 1), bt392.2))) else (some (bt392.1, bt392.2))))
set_option maxHeartbeats 8000000 in
set_option maxRecDepth 100000 in
theorem sequiturref01_Ceil.calls (a0 : Int) (a1 : Int) (r1 : Int) (r2 : Bool) (w : World) (h : sequiturref01_Ceil.f a0 a1 = some (r1, r2)) :
  Calls Try.prog 54 #[.int .i64 a0, .int .i64 a1] w fun e w' => e = .returned (.tuple #[.int .i64 r1, .bool r2]) ∧ Below w.heap.size w w' := by
 have HB := zK (Below.refl w.heap.size w)
 have H : ((sequiturref01_Div.f a0 a1).bind fun bt392 => ((sequiturref01_Mod.f a0 a1).bind fun bt394 => (if bt392.2 = true then (if bt394.1 = 0 then (some (bt392.1, bt392.2)) else (some (wrap64 (bt392.1 + 1), bt392.2))) else (some (bt392.1, bt392.2))))) = some (r1, r2) := h
 clear h
 replace H := Option.bind_eq_some_iff.mp H
 obtain ⟨⟨t392, t393⟩, A30, H⟩ := H
 replace H : ((sequiturref01_Mod.f a0 a1).bind fun bt394 => (if t393 = true then (if bt394.1 = 0 then (some (t392, t393)) else (some (wrap64 (t392 + 1), t393))) else (some (t392, t393)))) = some (r1, r2) := H
 have A3 := zK A30
 clear A30
 replace H := Option.bind_eq_some_iff.mp H
 obtain ⟨⟨t394, t395⟩, A40, H⟩ := H
 replace H : (if t393 = true then (if t394 = 0 then (some (t392, t393)) else (some (wrap64 (t392 + 1), t393))) else (some (t392, t393))) = some (r1, r2) := H
 have A4 := zK A40
 clear A40
 by_cases c5 : t393 = true
 ·subst c5
  have H1 : (if t394 = 0 then (some (t392, true)) else (some (wrap64 (t392 + 1), true))) = some (r1, r2) := by rw [if_pos rfl] at H; exact H
  clear H
  have H := H1
  clear H1
  by_cases c6 : t394 = 0
  ·rw [if_pos c6] at H
   have c6b0 : (t394 == 0) = true := beq_iff_eq.mpr c6
   have c6b1 : (t394 != 0) = false := bne_eq_false_iff_eq.mpr c6
   clear c6
   simp only [Option.some.injEq, Prod.mk.injEq] at H
   obtain ⟨rfl, rfl⟩ := H
   go_enter Try.func54, Try.ntmps54
   go_wp2_with (first | ((with_reducible refine zC (f := 68) rfl ?_); refine goesL_ (some 13) rfl rfl Try.func68 (by kernel_rfl) rfl #[.int .i64 a0, .int .i64 a1] rfl (by (try simp only [List.map_toArray, List.map_cons, List.map_nil]); first | done | rfl | (simp only [List.length_drop, List.length_take]; rfl)) ?_; (with_reducible refine (sequiturref01_Div.calls a0 a1 t392 true _ A3.out).mono ?_); rintro e w7 ⟨rfl, hb⟩; refine ⟨_, rfl, ?_⟩; replace HB := zK (below_step (zo HB) hb); (try clear hb); (try clear hb2); (try clear hk); (try clear hi)) | ((with_reducible refine zC (f := 69) rfl ?_); refine goesL_ (some 19) rfl rfl Try.func69 (by kernel_rfl) rfl #[.int .i64 a0, .int .i64 a1] rfl (by (try simp only [List.map_toArray, List.map_cons, List.map_nil]); first | done | rfl | (simp only [List.length_drop, List.length_take]; rfl)) ?_; (with_reducible refine (sequiturref01_Mod.calls a0 a1 t394 t395 _ A4.out).mono ?_); rintro e w' ⟨rfl, ⟨nd, rfl⟩⟩; refine ⟨_, rfl, ?_⟩))
   go_ret2
   exact ⟨by first | rfl | (simp [errW_none, errW_some] <;> rfl) | (simp [*, errW_none, errW_some] <;> rfl), zo HB⟩
  ·rw [if_neg c6] at H
   have c6b0 : (t394 == 0) = false := beq_eq_false_iff_ne.mpr c6
   have c6b1 : (t394 != 0) = true := bne_iff_ne.mpr c6
   simp only [Option.some.injEq, Prod.mk.injEq] at H
   obtain ⟨rfl, rfl⟩ := H
   go_enter Try.func54, Try.ntmps54
   go_wp2_with (first | ((with_reducible refine zC (f := 68) rfl ?_); refine goesL_ (some 13) rfl rfl Try.func68 (by kernel_rfl) rfl #[.int .i64 a0, .int .i64 a1] rfl (by (try simp only [List.map_toArray, List.map_cons, List.map_nil]); first | done | rfl | (simp only [List.length_drop, List.length_take]; rfl)) ?_; (with_reducible refine (sequiturref01_Div.calls a0 a1 t392 true _ A3.out).mono ?_); rintro e w8 ⟨rfl, hb⟩; refine ⟨_, rfl, ?_⟩; replace HB := zK (below_step (zo HB) hb); (try clear hb); (try clear hb2); (try clear hk); (try clear hi)) | ((with_reducible refine zC (f := 69) rfl ?_); refine goesL_ (some 19) rfl rfl Try.func69 (by kernel_rfl) rfl #[.int .i64 a0, .int .i64 a1] rfl (by (try simp only [List.map_toArray, List.map_cons, List.map_nil]); first | done | rfl | (simp only [List.length_drop, List.length_take]; rfl)) ?_; (with_reducible refine (sequiturref01_Mod.calls a0 a1 t394 t395 _ A4.out).mono ?_); rintro e w' ⟨rfl, ⟨nd, rfl⟩⟩; refine ⟨_, rfl, ?_⟩))
   go_ret2
   exact ⟨by first | rfl | (simp [errW_none, errW_some] <;> rfl) | (simp [*, errW_none, errW_some] <;> rfl), zo HB⟩
 ·replace c5 := Bool.eq_false_iff.mpr c5
  subst c5
  have H1 : (some (t392, false)) = some (r1, r2) := by rw [if_neg (show ¬ (false = true) by decide)] at H; exact H
  clear H
  have H := H1
  clear H1
  simp only [Option.some.injEq, Prod.mk.injEq] at H
  obtain ⟨rfl, rfl⟩ := H
  go_enter Try.func54, Try.ntmps54
  go_wp2_with (first | ((with_reducible refine zC (f := 68) rfl ?_); refine goesL_ (some 13) rfl rfl Try.func68 (by kernel_rfl) rfl #[.int .i64 a0, .int .i64 a1] rfl (by (try simp only [List.map_toArray, List.map_cons, List.map_nil]); first | done | rfl | (simp only [List.length_drop, List.length_take]; rfl)) ?_; (with_reducible refine (sequiturref01_Div.calls a0 a1 t392 false _ A3.out).mono ?_); rintro e w9 ⟨rfl, hb⟩; refine ⟨_, rfl, ?_⟩; replace HB := zK (below_step (zo HB) hb); (try clear hb); (try clear hb2); (try clear hk); (try clear hi)) | ((with_reducible refine zC (f := 69) rfl ?_); refine goesL_ (some 19) rfl rfl Try.func69 (by kernel_rfl) rfl #[.int .i64 a0, .int .i64 a1] rfl (by (try simp only [List.map_toArray, List.map_cons, List.map_nil]); first | done | rfl | (simp only [List.length_drop, List.length_take]; rfl)) ?_; (with_reducible refine (sequiturref01_Mod.calls a0 a1 t394 t395 _ A4.out).mono ?_); rintro e w' ⟨rfl, ⟨nd, rfl⟩⟩; refine ⟨_, rfl, ?_⟩))
  go_ret2
  exact ⟨by first | rfl | (simp [errW_none, errW_some] <;> rfl) | (simp [*, errW_none, errW_some] <;> rfl), zo HB⟩

/-! ### sequiturref28_by: function 33 -/
def sequiturref28_by.l0 : Nat → Int → Int → Int → List (S47) → Int → List (S47) → Option (Int × (List (S47)))
 | 0, _, _, _, _, _, _ => none
 | k + 1, x1, x6, x397000, x397001, x399000, x399001 => if x6 < (x397001.length : Int) then (if 0 ≤ x6 then (if x1 = 0 then (none) else (if x399001.length < 8796093022208 then (sequiturref28_by.l0 k x1 (wrap64 (x6 + 1)) x397000 x397001 x399000 (x399001 ++ [(⟨(rd_T47 x397001 x6).f0, wrap64 (Int.tdiv ((rd_T47 x397001 x6).f1) x1)⟩ : S47)])) else (none))) else (none)) else (some (x399000, x399001))
def sequiturref28_by.f (k : Nat) (a0_0 : Int) (l0_1 : List (S47)) (a1 : Int) : Option (Int × (List (S47))) := (sequiturref01_Ceil.f a0_0 a1).bind fun bt399 => (sequiturref28_by.l0 k a1 0 a0_0 l0_1 bt399.1 ([] : List (S47)))
theorem sequiturref28_by.mono_l : ∀ k, (∀ y0 y1 y2 y3 y4 y5, LeO (sequiturref28_by.l0 k y0 y1 y2 y3 y4 y5) (sequiturref28_by.l0 (k + 1) y0 y1 y2 y3 y4 y5))
 | 0 => fun _ _ _ _ _ _ r h => by simp [sequiturref28_by.l0] at h
 | k + 1 => by
  have ih0 := sequiturref28_by.mono_l k
  ·intro y0 y1 y2 y3 y4 y5
   unfold sequiturref28_by.l0
   repeat' first
   | (with_reducible exact ih0 _ _ _ _ _ _)
   | (with_reducible exact LeO.refl _)
   | (with_reducible exact LeO.none _)
   | (with_reducible refine LeO.ite ?_ ?_)
   | (with_reducible refine LeO.bind ?_ (fun _ => ?_))
   | exact ih0 _ _ _ _ _ _
   | exact LeO.none _
   | refine LeO.ite ?_ ?_
   | refine LeO.bind ?_ (fun _ => ?_)
theorem sequiturref28_by.mono : ∀ a0 a1 a2 k, LeO (sequiturref28_by.f k a0 a1 a2) (sequiturref28_by.f (k + 1) a0 a1 a2) := by
 intro a0 a1 a2 k
 have ih0 := sequiturref28_by.mono_l k
 unfold sequiturref28_by.f
 repeat' first
   | (with_reducible exact ih0 _ _ _ _ _ _)
   | (with_reducible exact LeO.refl _)
   | (with_reducible exact LeO.none _)
   | (with_reducible refine LeO.ite ?_ ?_)
   | (with_reducible refine LeO.bind ?_ (fun _ => ?_))
   | exact ih0 _ _ _ _ _ _
   | exact LeO.none _
   | refine LeO.ite ?_ ?_
   | refine LeO.bind ?_ (fun _ => ?_)
def sequiturref28_by.T6 : Bool × List (List Nat × List Nat) := (true, [([], []), ([0], [0]), ([], []), ([2], [2]), ([], []), ([3, 4], [3, 4]), ([5], [5]), ([6], [6]), ([], []), ([8], [8]), ([], []), ([9, 10], [9, 10]), ([11], [11]), ([12], [12]), ([], []), ([13, 14], [13, 14]), ([7, 15], [7, 15]), ([16], [16]), ([1, 17], [1, 17]), ([0, 1, 2, 3, 4, 5, 6, 7, 8, 9, 10, 11, 12, 13, 14, 15, 16, 17, 18], []), ([19, 18, 18, 0, 1, 2, 3, 4, 5, 6, 7, 8, 9, 10, 11, 12, 13, 14, 15, 16, 17, 18], [18, 19])])
def sequiturref28_by.B6 : List Nat := [0, 1, 0, 4, 0, 28, 60, 124, 0, 256, 0, 1792, 3840, 7936, 0, 32512, 65532, 131068, 262143, 524287, 1048575]
theorem sequiturref28_by.tab6 : rtab .any (opsOf Try.f33 6) = sequiturref28_by.T6 := by kernel_rfl
theorem sequiturref28_by.bits6 : waitsOk sequiturref28_by.T6.2 sequiturref28_by.B6 = true := by kernel_rfl
set_option maxHeartbeats 8000000 in
set_option maxRecDepth 100000 in
theorem sequiturref28_by.calls (k : Nat) (a0_0 : Int) (A0_1 : Option Addr) (c0_1 : Nat) (l0_1 : List (S47)) (a1 : Int) (r1 : Int) (r2 : List (S47)) (w : World) (hr0_1 : Kd.C k47 w A0_1 l0_1.length l0_1) (hc0_1 : l0_1.length ≤ c0_1) (h : sequiturref28_by.f k a0_0 l0_1 a1 = some (r1, r2)) :
  Calls Try.prog 33 #[.agg #[.int .i64 a0_0, .slice A0_1 l0_1.length c0_1], .int .i64 a1] w fun e w' => ∃ v1_ : Value, e = .returned (.agg #[.int .i64 r1, v1_]) ∧ Kd.R k47 47 w' w.heap.size (fun _ => True) v1_ r2 ∧ Below w.heap.size w w' := by
 have hu28 := Try.underlying28
 have hu47 := Try.underlying47
 have HR0_1 := zK hr0_1
 have HC0_1 := zK hc0_1
 clear hr0_1 hc0_1
 have HB := zK (Below.refl w.heap.size w)
 have H : ((sequiturref01_Ceil.f a0_0 a1).bind fun bt399 => (sequiturref28_by.l0 k a1 0 a0_0 l0_1 bt399.1 ([] : List (S47)))) = some (r1, r2) := h
 clear h
 replace H := Option.bind_eq_some_iff.mp H
 obtain ⟨⟨t399, t400⟩, A30, H⟩ := H
 replace H : (sequiturref28_by.l0 k a1 0 a0_0 l0_1 t399 ([] : List (S47))) = some (r1, r2) := H
 have A3 := zK A30
 clear A30
 have H' := zK H
 clear H
 go_enter Try.func33, Try.ntmps33
 go_wp2_with (first | ((with_reducible refine gate_dst (N := 2) rfl ?_); refine box_event ?hg (N := 2) ?hd (cs := #[.int .i64 a0_0, .slice A0_1 l0_1.length c0_1]) (t := 28) ?hr ?_; (case hd => rfl); (case hg => rfl); (case hr => first | (go_simp; done) | (go_simp; rfl)); intro gb396 hg w4 hbox hb; have BK396 := zK (hbox); have GW396 := zK ((by rw [hg]; exact (below_size (zo HB)) : w.heap.size ≤ gb396)); have GE396 := zK ((by rw [hg]; exact (below_size (zo HB)) : w.heap.size ≤ gb396)); replace HB := zK (below_step (zo HB) hb); clear hb hbox hg) | ((with_reducible refine gate_dst (N := 4) rfl ?_); refine box_event ?hg (N := 4) ?hd (cs := #[.int .i64 0, .slice none 0 0]) (t := 28) ?hr ?_; (case hd => rfl); (case hg => rfl); (case hr => first | (go_simp; done) | (go_simp; rfl)); intro gb397 hg w5 hbox hb; have BK397 := zK (hbox); have GW397 := zK ((by rw [hg]; exact (below_size (zo HB)) : w.heap.size ≤ gb397)); have GE397 := zK ((by rw [hg]; exact (below_size (zo HB)) : w.heap.size ≤ gb397)); replace HB := zK (below_step (zo HB) hb); have NB396_397 := zK ((by rw [hg]; exact Nat.ne_of_lt (blk_lt (g := gb396) (o := .cells #[.int .i64 a0_0, .slice A0_1 l0_1.length c0_1] 28 (0, 0)) (zb BK396)) : gb396 ≠ gb397)); have NB397_396 := zK ((by rw [hg]; exact Nat.ne_of_gt (blk_lt (g := gb396) (o := .cells #[.int .i64 a0_0, .slice A0_1 l0_1.length c0_1] 28 (0, 0)) (zb BK396)) : gb397 ≠ gb396)); replace BK396 := zK (blk_below (g := gb396) (o := .cells #[.int .i64 a0_0, .slice A0_1 l0_1.length c0_1] 28 (0, 0)) (zb BK396) hb); clear hb hbox hg) | ((with_reducible refine gate_dst (N := 5) rfl ?_); refine box_event ?hg (N := 5) ?hd (cs := #[.int .i64 0, .slice none 0 0]) (t := 28) ?hr ?_; (case hd => rfl); (case hg => rfl); (case hr => first | (go_simp; done) | (go_simp; rfl)); intro gb398 hg w6 hbox hb; have BK398 := zK (hbox); have GW398 := zK ((by rw [hg]; exact (below_size (zo HB)) : w.heap.size ≤ gb398)); have GE398 := zK ((by rw [hg]; exact (below_size (zo HB)) : w.heap.size ≤ gb398)); replace HB := zK (below_step (zo HB) hb); have NB396_398 := zK ((by rw [hg]; exact Nat.ne_of_lt (blk_lt (g := gb396) (o := .cells #[.int .i64 a0_0, .slice A0_1 l0_1.length c0_1] 28 (0, 0)) (zb BK396)) : gb396 ≠ gb398)); have NB398_396 := zK ((by rw [hg]; exact Nat.ne_of_gt (blk_lt (g := gb396) (o := .cells #[.int .i64 a0_0, .slice A0_1 l0_1.length c0_1] 28 (0, 0)) (zb BK396)) : gb398 ≠ gb396)); replace BK396 := zK (blk_below (g := gb396) (o := .cells #[.int .i64 a0_0, .slice A0_1 l0_1.length c0_1] 28 (0, 0)) (zb BK396) hb); have NB397_398 := zK ((by rw [hg]; exact Nat.ne_of_lt (blk_lt (g := gb397) (o := .cells #[.int .i64 0, .slice none 0 0] 28 (0, 0)) (zb BK397)) : gb397 ≠ gb398)); have NB398_397 := zK ((by rw [hg]; exact Nat.ne_of_gt (blk_lt (g := gb397) (o := .cells #[.int .i64 0, .slice none 0 0] 28 (0, 0)) (zb BK397)) : gb398 ≠ gb397)); replace BK397 := zK (blk_below (g := gb397) (o := .cells #[.int .i64 0, .slice none 0 0] 28 (0, 0)) (zb BK397) hb); clear hb hbox hg; have hnb7 := NB398_396.out; have hnc7 := NB396_398.out; have hnb8 := NB398_397.out; have hnc8 := NB397_398.out; have hcz9_0 : w6.cell? ⟨gb398, 0, none⟩ = some (.int .i64 0) := (blk_cell BK398.out 0).trans rfl; have hcz9_1 : w6.cell? ⟨gb398, 1, none⟩ = some (.slice none 0 0) := (blk_cell BK398.out 1).trans rfl; have hfz9_0 := blk_frozen BK398.out 0; have hfz9_1 := blk_frozen BK398.out 1; have hnb10 := NB396_397.out; have hnc10 := NB397_396.out; have hcz11_0 : w6.cell? ⟨gb396, 0, none⟩ = some (.int .i64 a0_0) := (blk_cell BK396.out 0).trans rfl; have hcz11_1 : w6.cell? ⟨gb396, 1, none⟩ = some (.slice A0_1 l0_1.length c0_1) := (blk_cell BK396.out 1).trans rfl; have hfz11_0 := blk_frozen BK396.out 0; have hfz11_1 := blk_frozen BK396.out 1) | ((with_reducible refine zC (f := 54) rfl ?_); refine goesL_ (some 12) rfl rfl Try.func54 (by kernel_rfl) rfl #[.int .i64 a0_0, .int .i64 a1] rfl (by (try simp only [List.map_toArray, List.map_cons, List.map_nil]); first | done | rfl | (simp only [List.length_drop, List.length_take]; rfl)) ?_; (with_reducible refine (sequiturref01_Ceil.calls a0_0 a1 t399 t400 _ A3.out).mono ?_); rintro e w12 ⟨rfl, hb⟩; refine ⟨_, rfl, ?_⟩; replace BK396 := zK (blk_below (g := gb396) (o := .cells #[.int .i64 a0_0, .slice A0_1 l0_1.length c0_1] 28 (0, 0)) (zb BK396) hb); replace BK397 := zK (blk_below (g := gb397) (o := .cells #[.int .i64 0, .slice none 0 0] 28 (0, 0)) (zb BK397) hb); replace BK398 := zK (blk_below (g := gb398) (o := .cells #[.int .i64 0, .slice none 0 0] 28 (0, 0)) (by refine zM ?_; refine blk_put (cs := #[.int .i64 0, .slice none 0 0]) ?_ 1 _ rfl; refine zM ?_; refine blk_put (cs := #[.int .i64 0, .slice none 0 0]) ?_ 0 _ rfl; refine zM ?_; exact BK398.out) hb); replace HB := zK (below_step (zo HB) hb); (try clear hb); (try clear hb2); (try clear hk); (try clear hi); have hcz13_0 : w12.cell? ⟨gb398, 0, none⟩ = some (.int .i64 0) := (blk_cell BK398.out 0).trans rfl; have hcz13_1 : w12.cell? ⟨gb398, 1, none⟩ = some (.slice none 0 0) := (blk_cell BK398.out 1).trans rfl; have hfz13_0 := blk_frozen BK398.out 0; have hfz13_1 := blk_frozen BK398.out 1))
 go_loopg [6] k (fun kq v6 w' => ∃ (x6_1 : Int) (x399001_1 : List (S47)) (u399001 : Value), v6 = .int .i64 x6_1 ∧ Aside0 (sequiturref28_by.l0 kq a1 x6_1 a0_0 l0_1 t399 x399001_1 = some (r1, r2)) ∧ Aside0 (kq ≤ k) ∧ Aside0 (Kd.R k47 47 w' w.heap.size (fun _ => True) u399001 x399001_1) ∧ Aside0 (w'.heap[gb396]? = some (.cells #[.int .i64 a0_0, (.slice A0_1 l0_1.length c0_1)] 28 (0, 0))) ∧ Aside0 (w'.heap[gb397]? = some (.cells #[.int .i64 0, (.slice none 0 0)] 28 (0, 0))) ∧ Aside0 (w'.heap[gb398]? = some (.cells #[.int .i64 t399, u399001] 28 (0, 0))) ∧ Aside0 (Below w.heap.size w w'))
 case atStart => exact ⟨(0), (([] : List (S47))), (.slice none 0 0), (by first | rfl | (simp; done) | (simp [*]; done)), H', ⟨Nat.le_refl _⟩, ⟨by first | exact Kd.R_nil _ _ _ _ _ | exact Kd.N_nil _ _ _ _ _ | exact Kd.V_nil _ _ _ _ _ | exact Kd.Q_nil _ _ _ _ _ | exact Kd.S_nil _ _ _ _ _⟩, ⟨zb BK396⟩, ⟨zb BK397⟩, ⟨by refine zM ?_; refine blk_put (cs := #[.int .i64 0, .slice none 0 0]) ?_ 0 _ rfl; refine zM ?_; exact BK398.out⟩, ⟨zo HB⟩⟩
 case round =>
  clear H'
  try clear c1
  try clear p2
  try clear c3
  try clear c5
  try clear c7
  try clear c8
  try clear c10
  try clear hcz11_0
  try clear hcz11_1
  try clear hcz13_0
  try clear hcz13_1
  try clear hcz9_0
  try clear hcz9_1
  try clear hfz11_0
  try clear hfz11_1
  try clear hfz13_0
  try clear hfz13_1
  try clear hfz9_0
  try clear hfz9_1
  obtain ⟨x6_1, x399001_1, u399001, rfl, HA, HK1, HO_399001, BK396, BK397, BK398, HB⟩ := hrel
  cases gk with
  | zero => exact absurd HA.out (by simp [sequiturref28_by.l0])
  | succ k1 =>
   have H := HA.out
   clear HA
   simp only [sequiturref28_by.l0] at H
   by_cases c14 : x6_1 < (l0_1.length : Int)
   ·rw [if_pos c14] at H
    have c14b0 : decide (x6_1 < (l0_1.length : Int)) = true := decide_eq_true c14
    clear c14
    by_cases c15 : 0 ≤ x6_1
    ·rw [if_pos c15] at H
     have c15b0 : decide (0 ≤ x6_1) = true := decide_eq_true c15
     clear c15
     by_cases c16 : a1 = 0
     ·rw [if_pos c16] at H
      exact absurd H (by simp)
     ·rw [if_neg c16] at H
      have c16b0 : (a1 == 0) = false := beq_eq_false_iff_ne.mpr c16
      have c16b1 : (a1 != 0) = true := bne_iff_ne.mpr c16
      by_cases c17 : x399001_1.length < 8796093022208
      ·rw [if_pos c17] at H
       have LMc17 := zK c17
       clear c17
       obtain ⟨y403, hy403⟩ : ∃ y_ : List (S47), y_ = (x399001_1 ++ [(⟨(rd_T47 l0_1 x6_1).f0, wrap64 (Int.tdiv ((rd_T47 l0_1 x6_1).f1) a1)⟩ : S47)]) := ⟨_, rfl⟩
       replace H : (sequiturref28_by.l0 k1 a1 (wrap64 (x6_1 + 1)) a0_0 l0_1 t399 y403) = some (r1, r2) := by first | (rw [hy403]; with_reducible exact H) | (have H2_ := (Option.bind_some _ _).symm.trans H; rw [hy403]; with_reducible exact H2_) | (have H2_ := (Option.bind_some _ _).symm.trans H; with_reducible exact H2_) | with_reducible exact H | (rw [hy403]; exact H) | exact H
       have Ny403 := zK hy403
       clear hy403
       have H' := zK H
       clear H
       have hnb18 := NB396_397.out
       have hnc18 := NB397_396.out
       have hnb19 := NB396_398.out
       have hnc19 := NB398_396.out
       have hcz20_0 : wr.cell? ⟨gb396, 0, none⟩ = some (.int .i64 a0_0) := (blk_cell BK396.out 0).trans rfl
       have hcz20_1 : wr.cell? ⟨gb396, 1, none⟩ = some (.slice A0_1 l0_1.length c0_1) := (blk_cell BK396.out 1).trans rfl
       have hfz20_0 := blk_frozen BK396.out 0
       have hfz20_1 := blk_frozen BK396.out 1
       try go_wp2
       replace HO_399001 := zK (Kd.R_drew HO_399001.out)
       replace BK396 := zK (zD BK396.out)
       replace BK397 := zK (zD BK397.out)
       replace BK398 := zK (zD BK398.out)
       replace HB := zK (yD HB.out)
       have p401 : 0 ≤ (x6_1 : Int) := of_decide_eq_true (by first | (with_reducible assumption) | assumption)
       have q401 : x6_1 < (l0_1.length : Int) := of_decide_eq_true (by first | (with_reducible assumption) | assumption)
       obtain ⟨ad401, e401, hx401_0, hx401_1⟩ := at_T47 HR0_1.out x6_1 p401 q401
       have hw401_1 := hx401_1
       have hw401_0 := hx401_0
       cases e401
       replace hx401_0 := (HB.out.cell (World.block_lt_of_cell? w _ hx401_0)).trans hx401_0
       replace hx401_1 := (HB.out.cell (World.block_lt_of_cell? w _ hx401_1)).trans hx401_1
       replace p401 := eq_true p401
       replace q401 := eq_true q401
       have p402 : 0 ≤ (x6_1 : Int) := of_decide_eq_true (by first | (with_reducible assumption) | assumption)
       have q402 : x6_1 < (l0_1.length : Int) := of_decide_eq_true (by first | (with_reducible assumption) | assumption)
       obtain ⟨ad402, e402, hx402_0, hx402_1⟩ := at_T47 HR0_1.out x6_1 p402 q402
       have hw402_1 := hx402_1
       have hw402_0 := hx402_0
       obtain rfl : ad401 = ad402 := (by injection e402)
       replace hx402_0 := (HB.out.cell (World.block_lt_of_cell? w _ hx402_0)).trans hx402_0
       replace hx402_1 := (HB.out.cell (World.block_lt_of_cell? w _ hx402_1)).trans hx402_1
       replace p402 := eq_true p402
       replace q402 := eq_true q402
       refine start_ (n := 21) (S := fun w' => w'.cell? ⟨gb398, 0, none⟩ = some (.int .i64 t399) ∧ w'.cell? ⟨gb398, 1, none⟩ = some (u399001) ∧ w'.cell? ⟨gb396, 0, none⟩ = some (.int .i64 a0_0) ∧ w'.cell? ⟨gb396, 1, none⟩ = some (.slice (some ad401) l0_1.length c0_1) ∧ w'.cell? (ad401.add ((x6_1).toNat * 2)) = some (.int .i64 ((rd_T47 l0_1 x6_1).f0)) ∧ w'.cell? ⟨(ad401.add ((x6_1).toNat * 2)).block, (ad401.add ((x6_1).toNat * 2)).off + 1, none⟩ = some (.int .i64 ((rd_T47 l0_1 x6_1).f1)) ∧ w'.cell? (ad401.add ((x6_1).toNat * 2)) = some (.int .i64 ((rd_T47 l0_1 x6_1).f0)) ∧ w'.cell? ⟨(ad401.add ((x6_1).toNat * 2)).block, (ad401.add ((x6_1).toNat * 2)).off + 1, none⟩ = some (.int .i64 ((rd_T47 l0_1 x6_1).f1))) (ds := [20]) #[false, false, false, false, false, false, false, false, false, false, false, false, false, false, false, false, false, false, false, false, false] (by kernel_rfl) rfl rfl ⟨(blk_cell BK398.out 0).trans rfl, (blk_cell BK398.out 1).trans rfl, (blk_cell BK396.out 0).trans rfl, (blk_cell BK396.out 1).trans rfl, ((HB.out.cell (World.block_lt_of_cell? w _ hw401_0)).trans hw401_0), ((HB.out.cell (World.block_lt_of_cell? w _ hw401_1)).trans hw401_1), ((HB.out.cell (World.block_lt_of_cell? w _ hw402_0)).trans hw402_0), ((HB.out.cell (World.block_lt_of_cell? w _ hw402_1)).trans hw402_1)⟩ (fun hHeld => ?_); refine with_tabW sequiturref28_by.tab6 sequiturref28_by.bits6 (fun HT_ HW_ => ?_)
       generalize wr.drew = w21 at HO_399001 BK396 BK397 BK398 HB hx401_0 hx401_1 hx402_0 hx402_1 hHeld ⊢
       refine pure_ (i := 0) (N := some 23) (v := ?_) (a' := ?_) #[true, false, false, false, false, false, false, false, false, false, false, false, false, false, false, false, false, false, false, false, false] rfl rfl (any_of HT_.out (by kernel_rfl)) (fun _ _ _ h => h) (Or.inl ⟨by rfl, ?_⟩) ?_ ?_
       rotate_left
       ·intro w'
        go_simp
        with_reducible rfl
       rotate_left
       ·simp only [Act.put, List.setIfInBounds_toArray, List.set_cons_zero, List.set_cons_succ, i64_w, i32_w]
        rfl
       refine pure_ (i := 2) (N := some 25) (v := ?_) (a' := ?_) #[true, false, true, false, false, false, false, false, false, false, false, false, false, false, false, false, false, false, false, false, false] rfl rfl (any_of HT_.out (by kernel_rfl)) (fun _ _ _ h => h) (Or.inl ⟨by rfl, ?_⟩) ?_ ?_
       rotate_left
       ·intro w'
        go_simp
        with_reducible rfl
       rotate_left
       ·simp only [Act.put, List.setIfInBounds_toArray, List.set_cons_zero, List.set_cons_succ, i64_w, i32_w]
        rfl
       refine pure_ (i := 4) (N := some 27) (v := ?_) (a' := ?_) #[true, false, true, false, true, false, false, false, false, false, false, false, false, false, false, false, false, false, false, false, false] rfl rfl (any_of HT_.out (by kernel_rfl)) (fun _ _ _ h => h) (Or.inl ⟨by rfl, ?_⟩) ?_ ?_
       rotate_left
       ·intro w'
        go_simp
        with_reducible rfl
       rotate_left
       ·simp only [Act.put, List.setIfInBounds_toArray, List.set_cons_zero, List.set_cons_succ, i64_w, i32_w]
        rfl
       refine pure_ (i := 8) (N := some 31) (v := ?_) (a' := ?_) #[true, false, true, false, true, false, false, false, true, false, false, false, false, false, false, false, false, false, false, false, false] rfl rfl (any_of HT_.out (by kernel_rfl)) (fun _ _ _ h => h) (Or.inl ⟨by rfl, ?_⟩) ?_ ?_
       rotate_left
       ·intro w'
        go_simp
        with_reducible rfl
       rotate_left
       ·simp only [Act.put, List.setIfInBounds_toArray, List.set_cons_zero, List.set_cons_succ, i64_w, i32_w]
        rfl
       refine pure_ (i := 10) (N := some 33) (v := ?_) (a' := ?_) #[true, false, true, false, true, false, false, false, true, false, true, false, false, false, false, false, false, false, false, false, false] rfl rfl (any_of HT_.out (by kernel_rfl)) (fun _ _ _ h => h) (Or.inl ⟨by rfl, ?_⟩) ?_ ?_
       rotate_left
       ·intro w'
        go_simp
        with_reducible rfl
       rotate_left
       ·simp only [Act.put, List.setIfInBounds_toArray, List.set_cons_zero, List.set_cons_succ, i64_w, i32_w]
        rfl
       refine pure_ (i := 14) (N := some 37) (v := ?_) (a' := ?_) #[true, false, true, false, true, false, false, false, true, false, true, false, false, false, true, false, false, false, false, false, false] rfl rfl (any_of HT_.out (by kernel_rfl)) (fun _ _ _ h => h) (Or.inl ⟨by rfl, ?_⟩) ?_ ?_
       rotate_left
       ·intro w'
        go_simp
        with_reducible rfl
       rotate_left
       ·simp only [Act.put, List.setIfInBounds_toArray, List.set_cons_zero, List.set_cons_succ, i64_w, i32_w]
        rfl
       refine take_ (i := 1) (N := some 24) (v := ?_) (a' := ?_) #[true, true, true, false, true, false, false, false, true, false, true, false, false, false, true, false, false, false, false, false, false] rfl rfl (take_ofW HT_.out HW_.out (by kernel_rfl)) (fun _ _ _ h => h) (Or.inl ⟨by rfl, ?_⟩) hHeld ?_ ?_
       rotate_left
       ·rintro w' ⟨s0, s1, s2, s3, s4, s5, s6, s7⟩
        go_simp
        with_reducible rfl
       rotate_left
       ·simp only [Act.put, List.setIfInBounds_toArray, List.set_cons_zero, List.set_cons_succ, i64_w, i32_w]
        rfl
       refine take_ (i := 3) (N := some 26) (v := ?_) (a' := ?_) #[true, true, true, true, true, false, false, false, true, false, true, false, false, false, true, false, false, false, false, false, false] rfl rfl (take_ofW HT_.out HW_.out (by kernel_rfl)) (fun _ _ _ h => h) (Or.inl ⟨by rfl, ?_⟩) hHeld ?_ ?_
       rotate_left
       ·rintro w' ⟨s0, s1, s2, s3, s4, s5, s6, s7⟩
        go_simp
        with_reducible rfl
       rotate_left
       ·simp only [Act.put, List.setIfInBounds_toArray, List.set_cons_zero, List.set_cons_succ, i64_w, i32_w]
        rfl
       refine pure_ (i := 5) (N := some 28) (v := ?_) (a' := ?_) #[true, true, true, true, true, true, false, false, true, false, true, false, false, false, true, false, false, false, false, false, false] rfl rfl (any_of HT_.out (by kernel_rfl)) (fun _ _ _ h => h) (Or.inl ⟨by rfl, ?_⟩) ?_ ?_
       rotate_left
       ·intro w'
        go_simp
        with_reducible rfl
       rotate_left
       ·simp only [Act.put, List.setIfInBounds_toArray, List.set_cons_zero, List.set_cons_succ, i64_w, i32_w]
        rfl
       refine pure_ (i := 6) (N := some 29) (v := ?_) (a' := ?_) #[true, true, true, true, true, true, true, false, true, false, true, false, false, false, true, false, false, false, false, false, false] rfl rfl (any_of HT_.out (by kernel_rfl)) (fun _ _ _ h => h) (Or.inl ⟨by rfl, ?_⟩) ?_ ?_
       rotate_left
       ·intro w'
        go_simp
        with_reducible rfl
       rotate_left
       ·simp only [Act.put, List.setIfInBounds_toArray, List.set_cons_zero, List.set_cons_succ, i64_w, i32_w]
        rfl
       refine take_ (i := 7) (N := some 30) (v := ?_) (a' := ?_) #[true, true, true, true, true, true, true, true, true, false, true, false, false, false, true, false, false, false, false, false, false] rfl rfl (take_ofW HT_.out HW_.out (by kernel_rfl)) (fun _ _ _ h => h) (Or.inl ⟨by rfl, ?_⟩) hHeld ?_ ?_
       rotate_left
       ·rintro w' ⟨s0, s1, s2, s3, s4, s5, s6, s7⟩
        go_simp
        with_reducible rfl
       rotate_left
       ·simp only [Act.put, List.setIfInBounds_toArray, List.set_cons_zero, List.set_cons_succ, i64_w, i32_w]
        rfl
       refine take_ (i := 9) (N := some 32) (v := ?_) (a' := ?_) #[true, true, true, true, true, true, true, true, true, true, true, false, false, false, true, false, false, false, false, false, false] rfl rfl (take_ofW HT_.out HW_.out (by kernel_rfl)) (fun _ _ _ h => h) (Or.inl ⟨by rfl, ?_⟩) hHeld ?_ ?_
       rotate_left
       ·rintro w' ⟨s0, s1, s2, s3, s4, s5, s6, s7⟩
        go_simp
        with_reducible rfl
       rotate_left
       ·simp only [Act.put, List.setIfInBounds_toArray, List.set_cons_zero, List.set_cons_succ, i64_w, i32_w]
        rfl
       refine pure_ (i := 11) (N := some 34) (v := ?_) (a' := ?_) #[true, true, true, true, true, true, true, true, true, true, true, true, false, false, true, false, false, false, false, false, false] rfl rfl (any_of HT_.out (by kernel_rfl)) (fun _ _ _ h => h) (Or.inl ⟨by rfl, ?_⟩) ?_ ?_
       rotate_left
       ·intro w'
        go_simp
        with_reducible rfl
       rotate_left
       ·simp only [Act.put, List.setIfInBounds_toArray, List.set_cons_zero, List.set_cons_succ, i64_w, i32_w]
        rfl
       refine pure_ (i := 12) (N := some 35) (v := ?_) (a' := ?_) #[true, true, true, true, true, true, true, true, true, true, true, true, true, false, true, false, false, false, false, false, false] rfl rfl (any_of HT_.out (by kernel_rfl)) (fun _ _ _ h => h) (Or.inl ⟨by rfl, ?_⟩) ?_ ?_
       rotate_left
       ·intro w'
        go_simp
        with_reducible rfl
       rotate_left
       ·simp only [Act.put, List.setIfInBounds_toArray, List.set_cons_zero, List.set_cons_succ, i64_w, i32_w]
        rfl
       refine take_ (i := 13) (N := some 36) (v := ?_) (a' := ?_) #[true, true, true, true, true, true, true, true, true, true, true, true, true, true, true, false, false, false, false, false, false] rfl rfl (take_ofW HT_.out HW_.out (by kernel_rfl)) (fun _ _ _ h => h) (Or.inl ⟨by rfl, ?_⟩) hHeld ?_ ?_
       rotate_left
       ·rintro w' ⟨s0, s1, s2, s3, s4, s5, s6, s7⟩
        go_simp
        with_reducible rfl
       rotate_left
       ·simp only [Act.put, List.setIfInBounds_toArray, List.set_cons_zero, List.set_cons_succ, i64_w, i32_w]
        rfl
       refine pure_ (i := 15) (N := some 38) (v := ?_) (a' := ?_) #[true, true, true, true, true, true, true, true, true, true, true, true, true, true, true, true, false, false, false, false, false] rfl rfl (any_of HT_.out (by kernel_rfl)) (fun _ _ _ h => h) (Or.inl ⟨by rfl, ?_⟩) ?_ ?_
       rotate_left
       ·intro w'
        go_simp
        with_reducible rfl
       rotate_left
       ·simp only [Act.put, List.setIfInBounds_toArray, List.set_cons_zero, List.set_cons_succ, i64_w, i32_w]
        rfl
       refine pure_ (i := 16) (N := some 39) (v := ?_) (a' := ?_) #[true, true, true, true, true, true, true, true, true, true, true, true, true, true, true, true, true, false, false, false, false] rfl rfl (any_of HT_.out (by kernel_rfl)) (fun _ _ _ h => h) (Or.inl ⟨by rfl, ?_⟩) ?_ ?_
       rotate_left
       ·intro w'
        go_simp
        with_reducible rfl
       rotate_left
       ·simp only [Act.put, List.setIfInBounds_toArray, List.set_cons_zero, List.set_cons_succ, i64_w, i32_w]
        rfl
       refine one_ (i := 17) (N := some 40) #[true, true, true, true, true, true, true, true, true, true, true, true, true, true, true, true, true, true, false, false, false] rfl rfl (one_of HT_.out (by kernel_rfl)) (by decide) (fun K hK => ?_)
       refine value_ (w1 := ?_) (v := ?_) (by rfl) rfl ?_ ?_
       rotate_left 2
       ·go_simp
        constructor
        ·rfl
        ·rfl
       refine hK.out _ _ ⟨(blk_cell (zA BK398.out _) 0).trans rfl, (blk_cell (zA BK398.out _) 1).trans rfl, (blk_cell (zA BK396.out _) 0).trans rfl, (blk_cell (zA BK396.out _) 1).trans rfl, (World.cell?_alloc_lt _ _ _ (World.block_lt_of_cell? _ _ (((HB.out.cell (World.block_lt_of_cell? w _ hw401_0)).trans hw401_0)))).trans (((HB.out.cell (World.block_lt_of_cell? w _ hw401_0)).trans hw401_0)), (World.cell?_alloc_lt _ _ _ (World.block_lt_of_cell? _ _ (((HB.out.cell (World.block_lt_of_cell? w _ hw401_1)).trans hw401_1)))).trans (((HB.out.cell (World.block_lt_of_cell? w _ hw401_1)).trans hw401_1)), (World.cell?_alloc_lt _ _ _ (World.block_lt_of_cell? _ _ (((HB.out.cell (World.block_lt_of_cell? w _ hw402_0)).trans hw402_0)))).trans (((HB.out.cell (World.block_lt_of_cell? w _ hw402_0)).trans hw402_0)), (World.cell?_alloc_lt _ _ _ (World.block_lt_of_cell? _ _ (((HB.out.cell (World.block_lt_of_cell? w _ hw402_1)).trans hw402_1)))).trans (((HB.out.cell (World.block_lt_of_cell? w _ hw402_1)).trans hw402_1))⟩ (fun hHeld => ?_)
       clear hK K
       refine norm_ (a' := ?_) ?_ ?_
       rotate_left
       ·show Act.put _ (some 40) _ = _
        simp only [Act.put, List.setIfInBounds_toArray, List.set_cons_zero, List.set_cons_succ, i64_w, i32_w]
        rfl
       refine one_ (i := 18) (N := some 41) #[true, true, true, true, true, true, true, true, true, true, true, true, true, true, true, true, true, true, true, false, false] rfl rfl (one_of HT_.out (by kernel_rfl)) (by decide) (fun K hK => ?_)
       refine Kd.R_append_step k47 (w0 := w) w.heap.size (by rfl) (.tmp 24) (.tmp 40) 26 47 (.agg #[(.int .i64 0), (.int .i64 0)]) 16 rfl Try.underlying26 info47 rfl (by decide) (by omega) u399001 x399001_1 (⟨(rd_T47 l0_1 x6_1).f0, wrap64 (Int.tdiv ((rd_T47 l0_1 x6_1).f1) a1)⟩ : S47) [.int .i64 ((rd_T47 l0_1 x6_1).f0), .int .i64 (wrap64 (Int.tdiv ((rd_T47 l0_1 x6_1).f1) a1))] (fun _ => True) (fun _ => False) rfl rfl ?aP (fun _ hk => hk.elim) ?aF ?aO ?aB ?aS ?aL ?_
       (case aP => exact k47_mkM _ _ _ (⟨(rd_T47 l0_1 x6_1).f0, wrap64 (Int.tdiv ((rd_T47 l0_1 x6_1).f1) a1)⟩ : S47))
       (case aB => exact (zo HB))
       (case aF => exact (fun _ _ => trivial))
       (case aO => exact (zr HO_399001))
       (case aS => exact (below_size (zo HB)))
       (case aL => have := LMc17.out; omega)
       intro v404 w22 ho hb hg hat
       rw [← Ny403.out] at ho
       replace BK396 := zK (blk_grown (g := gb396) (o := .cells #[.int .i64 a0_0, .slice (some ad401) l0_1.length c0_1] 28 (0, 0)) (zb BK396) hg (Kd.R_ne HO_399001.out BK396.out (by decide)))
       replace BK397 := zK (blk_grown (g := gb397) (o := .cells #[.int .i64 0, .slice none 0 0] 28 (0, 0)) (zb BK397) hg (Kd.R_ne HO_399001.out BK397.out (by decide)))
       replace BK398 := zK (blk_grown (g := gb398) (o := .cells #[.int .i64 t399, u399001] 28 (0, 0)) (zb BK398) hg (Kd.R_ne HO_399001.out BK398.out (by decide)))
       replace HB := zK (hb)
       have HO405 := zK (ho)
       clear HO_399001 ho hb hg hat
       obtain ⟨Ao23, co23, eo23⟩ := Kd.R_slice HO405.out
       (first | subst eo23 | (injection eo23 with f1_ f2_ f3_; have f4_ := f1_.symm; have f5_ := f3_.symm; clear f1_ f2_ f3_; subst f4_; subst f5_))
       refine hK.out _ _ ⟨(blk_cell BK398.out 0).trans rfl, (blk_cell BK398.out 1).trans rfl, (blk_cell BK396.out 0).trans rfl, (blk_cell BK396.out 1).trans rfl, ((HB.out.cell (World.block_lt_of_cell? w _ hw401_0)).trans hw401_0), ((HB.out.cell (World.block_lt_of_cell? w _ hw401_1)).trans hw401_1), ((HB.out.cell (World.block_lt_of_cell? w _ hw402_0)).trans hw402_0), ((HB.out.cell (World.block_lt_of_cell? w _ hw402_1)).trans hw402_1)⟩ (fun hHeld => ?_)
       clear hK K
       refine norm_ (a' := ?_) ?_ ?_
       rotate_left
       ·show Act.put _ (some 41) _ = _
        simp only [Act.put, List.setIfInBounds_toArray, List.set_cons_zero, List.set_cons_succ, i64_w, i32_w]
        rfl
       refine pure_ (i := 19) (N := some 42) (v := ?_) (a' := ?_) #[true, true, true, true, true, true, true, true, true, true, true, true, true, true, true, true, true, true, true, true, false] rfl rfl (any_of HT_.out (by kernel_rfl)) (fun _ _ _ h => h) (Or.inl ⟨by rfl, ?_⟩) ?_ ?_
       rotate_left
       ·intro w'
        go_simp
        with_reducible rfl
       rotate_left
       ·simp only [Act.put, List.setIfInBounds_toArray, List.set_cons_zero, List.set_cons_succ, i64_w, i32_w]
        rfl
       refine last_ (i := 20) (N := none) #[true, true, true, true, true, true, true, true, true, true, true, true, true, true, true, true, true, true, true, true, true] rfl rfl (one_of HT_.out (by kernel_rfl)) (by decide) (fun K hK => ?_)
       have hs24 : w22.cell? ⟨gb398, 1, none⟩ = some (u399001) := (blk_cell BK398.out 1).trans rfl
       have hfs24 := blk_frozen BK398.out 1
       have hns24_0 := NB396_398.out
       have hns24_1 := NB397_398.out
       have hms24_0 := NB398_396.out
       have hms24_1 := NB398_397.out
       refine skip_ (w1 := ?_) (by rfl) rfl ?_ ?_
       rotate_left
       ·go_simp
        rfl
       refine hK.out _ _ ?_
       clear hK K
       refine done_ (done_of HT_.out (by kernel_rfl)) ?_
       try go_wp2
       go_roundg k1
       case measure => have := HK1.out; omega
       case rel => exact ⟨(wrap64 (x6_1 + 1)), (y403), (.slice Ao23 y403.length co23), (by first | rfl | (simp; done) | (simp [*]; done)), H', ⟨by have := HK1.out; omega⟩, ⟨by (with_reducible repeat (first | apply Kd.R_alloc | apply Kd.R_drewN | apply Kd.R_drew)); exact Kd.R_mono (Kd.R_far (p := ⟨gb398, 1, none⟩) (Kd.R_types HO405.out BK398.out (by decide)) (fun _ hk => hk.2) (.slice Ao23 y403.length co23)) (fun _ hk => trivial)⟩, ⟨zb BK396⟩, ⟨zb BK397⟩, ⟨by refine zM ?_; refine blk_put (cs := #[.int .i64 t399, u399001]) ?_ 1 _ rfl; refine zM ?_; exact BK398.out⟩, ⟨zo HB⟩⟩
      ·rw [if_neg c17] at H
       exact absurd H (by simp)
    ·rw [if_neg c15] at H
     exact absurd H (by simp)
   ·rw [if_neg c14] at H
    have c14b0 : decide (x6_1 < (l0_1.length : Int)) = false := decide_eq_false c14
    clear c14
    simp only [Option.some.injEq, Prod.mk.injEq] at H
    obtain ⟨rfl, rfl⟩ := H
    have hnb25 := NB396_397.out
    have hnc25 := NB397_396.out
    have hnb26 := NB396_398.out
    have hnc26 := NB398_396.out
    have hcz27_0 : wr.cell? ⟨gb396, 0, none⟩ = some (.int .i64 a0_0) := (blk_cell BK396.out 0).trans rfl
    have hcz27_1 : wr.cell? ⟨gb396, 1, none⟩ = some (.slice A0_1 l0_1.length c0_1) := (blk_cell BK396.out 1).trans rfl
    have hfz27_0 := blk_frozen BK396.out 0
    have hfz27_1 := blk_frozen BK396.out 1
    have hnb28 := NB398_397.out
    have hnc28 := NB397_398.out
    have hcz29_0 : wr.cell? ⟨gb398, 0, none⟩ = some (.int .i64 t399) := (blk_cell BK398.out 0).trans rfl
    have hcz29_1 : wr.cell? ⟨gb398, 1, none⟩ = some (u399001) := (blk_cell BK398.out 1).trans rfl
    have hfz29_0 := blk_frozen BK398.out 0
    have hfz29_1 := blk_frozen BK398.out 1
    have hcz30_0 : wr.cell? ⟨gb397, 0, none⟩ = some (.int .i64 0) := (blk_cell BK397.out 0).trans rfl
    have hcz30_1 : wr.cell? ⟨gb397, 1, none⟩ = some (.slice none 0 0) := (blk_cell BK397.out 1).trans rfl
    have hfz30_0 := blk_frozen BK397.out 0
    have hfz30_1 := blk_frozen BK397.out 1
    obtain ⟨Ao31, co31, eo31⟩ := Kd.R_slice HO_399001.out
    subst eo31
    go_wp2
    refine bodyPost_ret (results_cell_row rfl _ _ gb397 28 #[.int .i64 t399, .slice Ao31 x399001_1.length co31] (0, 0) _ rfl (by refine zM ?_; refine blk_put (cs := #[.int .i64 t399, .slice none 0 0]) ?_ 1 _ rfl; refine zM ?_; refine blk_put (cs := #[.int .i64 0, .slice none 0 0]) ?_ 0 _ rfl; refine zM ?_; exact BK397.out) Try.underlying28 rfl (by kernel_rfl)) rfl ?_
    exact ⟨_, by first | rfl | (simp [errW_none, errW_some] <;> rfl) | (simp [*, errW_none, errW_some] <;> rfl), by (with_reducible repeat (first | apply Kd.R_alloc | apply Kd.R_drewN | apply Kd.R_drew)); exact Kd.R_mono (Kd.R_far (p := ⟨gb397, 1, none⟩) (Kd.R_far (p := ⟨gb397, 0, none⟩) (Kd.R_types HO_399001.out BK397.out (by decide)) (fun _ hk => hk.2) (.int .i64 t399)) (fun _ hk => hk.2) (.slice Ao31 x399001_1.length co31)) (fun _ hk => trivial), zo HB⟩

/-! ### sequiturref01_gcd: function 76 -/
def sequiturref01_gcd.l0 : Nat → Int → Int → Option (Int)
 | 0, _, _ => none
 | k + 1, x0, x1 => if x1 > 0 then (if x1 = 0 then (none) else (sequiturref01_gcd.l0 k x1 (Int.tmod x0 x1))) else (some x0)
def sequiturref01_gcd.f (k : Nat) (a0 : Int) (a1 : Int) : Option (Int) := sequiturref01_gcd.l0 k a0 a1
theorem sequiturref01_gcd.mono_l : ∀ k, (∀ y0 y1, LeO (sequiturref01_gcd.l0 k y0 y1) (sequiturref01_gcd.l0 (k + 1) y0 y1))
 | 0 => fun _ _ r h => by simp [sequiturref01_gcd.l0] at h
 | k + 1 => by
  have ih0 := sequiturref01_gcd.mono_l k
  ·intro y0 y1
   unfold sequiturref01_gcd.l0
   repeat' first
   | (with_reducible exact ih0 _ _)
   | (with_reducible exact LeO.refl _)
   | (with_reducible exact LeO.none _)
   | (with_reducible refine LeO.ite ?_ ?_)
   | (with_reducible refine LeO.bind ?_ (fun _ => ?_))
   | exact ih0 _ _
   | exact LeO.none _
   | refine LeO.ite ?_ ?_
   | refine LeO.bind ?_ (fun _ => ?_)
theorem sequiturref01_gcd.mono : ∀ a0 a1 k, LeO (sequiturref01_gcd.f k a0 a1) (sequiturref01_gcd.f (k + 1) a0 a1) := by
 intro a0 a1 k
 have ih0 := sequiturref01_gcd.mono_l k
 unfold sequiturref01_gcd.f
 repeat' first
   | (with_reducible exact ih0 _ _)
   | (with_reducible exact LeO.refl _)
   | (with_reducible exact LeO.none _)
   | (with_reducible refine LeO.ite ?_ ?_)
   | (with_reducible refine LeO.bind ?_ (fun _ => ?_))
   | exact ih0 _ _
   | exact LeO.none _
   | refine LeO.ite ?_ ?_
   | refine LeO.bind ?_ (fun _ => ?_)
set_option maxHeartbeats 8000000 in
set_option maxRecDepth 100000 in
theorem sequiturref01_gcd.calls (k : Nat) (a0 : Int) (a1 : Int) (r : Int) (w : World) (h : sequiturref01_gcd.f k a0 a1 = some r) :
  Calls Try.prog 76 #[.int .u64 a0, .int .u64 a1] w fun e w' => e = .returned (.int .u64 r) ∧ Drawn0 w w' := by
 have H : (sequiturref01_gcd.l0 k a0 a1) = some r := h
 clear h
 have H' := zK H
 clear H
 go_enter Try.func76, Try.ntmps76
 go_wp2
 repeat (go_quiet (fail); try go_wp2)
 go_loopg [0, 1] k (fun kq v0 v1 w' => ∃ (x0_1 : Int) (x1_1 : Int), v0 = .int .u64 x0_1 ∧ v1 = .int .u64 x1_1 ∧ Aside0 (sequiturref01_gcd.l0 kq x0_1 x1_1 = some r) ∧ Aside0 (kq ≤ k) ∧ Drawn0 w w')
 case atStart => exact ⟨(a0), (a1), (by first | rfl | (simp; done) | (simp [*]; done)), (by first | rfl | (simp; done) | (simp [*]; done)), H', ⟨Nat.le_refl _⟩, by repeat (first | exact Drawn0.refl _ | apply Drawn0.step)⟩
 case round =>
  clear H'
  try clear p2
  obtain ⟨x0_1, x1_1, rfl, rfl, HA, HK1, ⟨m1, rfl⟩⟩ := hrel
  cases gk with
  | zero => exact absurd HA.out (by simp [sequiturref01_gcd.l0])
  | succ k1 =>
   have H := HA.out
   clear HA
   simp only [sequiturref01_gcd.l0] at H
   by_cases c3 : x1_1 > 0
   ·rw [if_pos c3] at H
    have c3b0 : decide (0 < x1_1) = true := decide_eq_true c3
    clear c3
    by_cases c4 : x1_1 = 0
    ·rw [if_pos c4] at H
     exact absurd H (by simp)
    ·rw [if_neg c4] at H
     have c4b0 : (x1_1 == 0) = false := beq_eq_false_iff_ne.mpr c4
     have c4b1 : (x1_1 != 0) = true := bne_iff_ne.mpr c4
     have H' := zK H
     clear H
     go_wp2
     repeat (go_quiet (fail); try go_wp2)
     go_roundg k1
     case measure => have := HK1.out; omega
     case rel => exact ⟨(x1_1), (Int.tmod x0_1 x1_1), (by first | rfl | (simp; done) | (simp [*]; done)), (by first | rfl | (simp; done) | (simp [*]; done)), H', ⟨by have := HK1.out; omega⟩, by repeat (first | exact Drawn0.refl _ | apply Drawn0.step)⟩
   ·rw [if_neg c3] at H
    have c3b0 : decide (0 < x1_1) = false := decide_eq_false c3
    clear c3
    obtain rfl := Option.some.inj H
    go_wp2
    repeat (go_quiet (fail); try go_wp2)
    go_ret
    exact ⟨by first | rfl | (simp; done) | (simp [*]; done), by repeat (first | exact Drawn0.refl _ | apply Drawn0.step)⟩

end Go.Proofs.Ytmedciidghmkkaa.PIneqTurns
