/- What the call of each function that the law reaches comes to: it answers as the plain function of the same name does, wherever that one answers; and the law itself out of its plain form. Written by a program of this session (an extended copy of the printer); no condition but what stands in each theorem. -/
import Derived.Test.YtmedciidghmkkaaPIneqTurnsx0
import Derived.Test.YtmedciidghmkkaaPIneqTurnsx2
import Derived.Test.YtmedciidghmkkaaPIneqTurnsx4
import Derived.Test.YtmedciidghmkkaaPIneqTurnsx5
import Derived.Test.YtmedciidghmkkaaPIneqTurnsx6
namespace Go.Proofs.Ytmedciidghmkkaa.PIneqTurns
open Go.RowKit Go.Proofs.YtmedciidghmkkaaW.PrintWords Go.Proofs.YtmedciidghmkkaaW.PrintLast Go.Proofs.YtmedciidghmkkaaW.PrintMore
open Go.Proofs.YtmedciidghmkkaaW.PrintWords renaming blk_drewN → zN, blk_drew → zD, blk_alloc → zA, below_alloc → yA, pw_below_drewN → yN, below_drew1 → yD, below_set → yS, gate_callee → zC, gate_guard → zG
open Go.Proofs.YtmedciidghmkkaaW.PrintWords.Kd renaming N_alloc → nA, N_drewN → nN, N_drew → nD, C_alloc → cA, C_drewN → cN, C_drew → cD
open Go.Proofs.YtmedciidghmkkaaW.PrintWords.Aside0 renaming mk → zK
attribute [local go_sem] max2_int min2_int max_two min_two max_three min_three max_four min_four   -- for this text's walks alone
set_option linter.unusedVariables false
set_option linter.unusedSimpArgs false

/-! ### ineq_Tight: function 15 -/
def ineq_Tight.f (k : Nat) (a0_0 : Int) (l0_1 : List (S47)) (a0_2 : Bool) : Option (Int × (List (S47)) × Bool × Int) := (ineq_Right.f k a0_0 l0_1 a0_2).bind fun t197 => (if t197 = 0 then ((lin_Gcd.f k a0_0 l0_1).bind fun t198 => (if t198 < 2 then ((api_Mono_37.f l0_1).bind fun t199 => (some (a0_0, t199, a0_2, 0))) else (if a0_2 = true then (if t198 = 0 then (none) else (if (Int.tmod a0_0 t198) = 0 then ((ineq_divided.f k a0_0 l0_1 t198).bind fun bt202 => (some (bt202.1, bt202.2, a0_2, 0))) else (some (1, ([] : List (S47)), true, 0)))) else ((ineq_divided.f k a0_0 l0_1 t198).bind fun bt206 => (some (bt206.1, bt206.2, a0_2, 0)))))) else (some (0, ([] : List (S47)), false, t197)))
theorem ineq_Tight.mono : ∀ a0 a1 a2 k, LeO (ineq_Tight.f k a0 a1 a2) (ineq_Tight.f (k + 1) a0 a1 a2) := by
 intro a0 a1 a2 k
 unfold ineq_Tight.f
 repeat' first
   | (with_reducible exact ineq_Right.mono _ _ _ _)
   | (with_reducible exact ineq_divided.mono _ _ _ _)
   | (with_reducible exact lin_Gcd.mono _ _ _)
   | (with_reducible exact LeO.refl _)
   | (with_reducible exact LeO.none _)
   | (with_reducible refine LeO.ite ?_ ?_)
   | (with_reducible refine LeO.bind ?_ (fun _ => ?_))
   | exact ineq_Right.mono _ _ _ _
   | exact ineq_divided.mono _ _ _ _
   | exact lin_Gcd.mono _ _ _
   | exact LeO.none _
   | refine LeO.ite ?_ ?_
   | refine LeO.bind ?_ (fun _ => ?_)
def ineq_Tight.T6 : Bool × List (List Nat × List Nat) := (true, [([], []), ([0], [0]), ([1], [1]), ([], []), ([3], [3]), ([4], [4]), ([5], [5]), ([2, 6], [2, 6]), ([], []), ([8], [8]), ([7, 9], [7, 9]), ([10, 6, 0, 1, 2, 3, 4, 5, 6, 7, 8, 9, 10], [10]), ([11, 0, 1, 2, 3, 4, 5, 6, 7, 8, 9, 10, 11], [])])
def ineq_Tight.B6 : List Nat := [0, 1, 3, 0, 8, 24, 56, 127, 0, 256, 1023, 2047, 4095]
theorem ineq_Tight.tab6 : rtab .any (opsOf Try.f15 6) = ineq_Tight.T6 := by kernel_rfl
theorem ineq_Tight.bits6 : waitsOk ineq_Tight.T6.2 ineq_Tight.B6 = true := by kernel_rfl
def ineq_Tight.T9 : Bool × List (List Nat × List Nat) := (true, [([], []), ([0], [0]), ([], []), ([1, 2], [1, 2]), ([], []), ([4], [4]), ([3, 5], [3, 5]), ([6, 3, 0, 1, 2, 3, 4, 5, 6], [6]), ([7, 0, 1, 2, 3, 4, 5, 6, 7], [])])
def ineq_Tight.B9 : List Nat := [0, 1, 0, 7, 0, 16, 63, 127, 255]
theorem ineq_Tight.tab9 : rtab .any (opsOf Try.f15 9) = ineq_Tight.T9 := by kernel_rfl
theorem ineq_Tight.bits9 : waitsOk ineq_Tight.T9.2 ineq_Tight.B9 = true := by kernel_rfl
set_option maxHeartbeats 8000000 in
set_option maxRecDepth 100000 in
theorem ineq_Tight.calls (k : Nat) (a0_0 : Int) (A0_1 : Option Addr) (c0_1 : Nat) (l0_1 : List (S47)) (a0_2 : Bool) (r1 : Int) (r2 : List (S47)) (r3 : Bool) (r4 : Int) (w : World) (hr0_1 : Kd.C k47 w A0_1 l0_1.length l0_1) (hc0_1 : l0_1.length ≤ c0_1) (h : ineq_Tight.f k a0_0 l0_1 a0_2 = some (r1, r2, r3, r4)) :
  Calls Try.prog 15 #[.agg #[.int .i64 a0_0, .slice A0_1 l0_1.length c0_1, .bool a0_2]] w fun e w' => ∃ v1_ : Value, e = .returned (.tuple #[.agg #[.int .i64 r1, v1_, .bool r3], .int .i64 r4]) ∧ Kd.R k47 47 w' w.heap.size (fun _ => True) v1_ r2 ∧ Below w.heap.size w w' := by
 have hu30 := Try.underlying30
 have hu28 := Try.underlying28
 have HR0_1 := zK hr0_1
 have HC0_1 := zK hc0_1
 clear hr0_1 hc0_1
 have HB := zK (Below.refl w.heap.size w)
 have H : ((ineq_Right.f k a0_0 l0_1 a0_2).bind fun t197 => (if t197 = 0 then ((lin_Gcd.f k a0_0 l0_1).bind fun t198 => (if t198 < 2 then ((api_Mono_37.f l0_1).bind fun t199 => (some (a0_0, t199, a0_2, 0))) else (if a0_2 = true then (if t198 = 0 then (none) else (if (Int.tmod a0_0 t198) = 0 then ((ineq_divided.f k a0_0 l0_1 t198).bind fun bt202 => (some (bt202.1, bt202.2, a0_2, 0))) else (some (1, ([] : List (S47)), true, 0)))) else ((ineq_divided.f k a0_0 l0_1 t198).bind fun bt206 => (some (bt206.1, bt206.2, a0_2, 0)))))) else (some (0, ([] : List (S47)), false, t197)))) = some (r1, r2, r3, r4) := h
 clear h
 replace H := Option.bind_eq_some_iff.mp H
 obtain ⟨t197, A20, H⟩ := H
 replace H : (if t197 = 0 then ((lin_Gcd.f k a0_0 l0_1).bind fun t198 => (if t198 < 2 then ((api_Mono_37.f l0_1).bind fun t199 => (some (a0_0, t199, a0_2, 0))) else (if a0_2 = true then (if t198 = 0 then (none) else (if (Int.tmod a0_0 t198) = 0 then ((ineq_divided.f k a0_0 l0_1 t198).bind fun bt202 => (some (bt202.1, bt202.2, a0_2, 0))) else (some (1, ([] : List (S47)), true, 0)))) else ((ineq_divided.f k a0_0 l0_1 t198).bind fun bt206 => (some (bt206.1, bt206.2, a0_2, 0)))))) else (some (0, ([] : List (S47)), false, t197))) = some (r1, r2, r3, r4) := H
 have A2 := zK A20
 clear A20
 by_cases c3 : t197 = 0
 ·rw [if_pos c3] at H
  have c3b0 : (t197 == 0) = true := beq_iff_eq.mpr c3
  have c3b1 : (t197 != 0) = false := bne_eq_false_iff_eq.mpr c3
  clear c3
  replace H := Option.bind_eq_some_iff.mp H
  obtain ⟨t198, A40, H⟩ := H
  replace H : (if t198 < 2 then ((api_Mono_37.f l0_1).bind fun t199 => (some (a0_0, t199, a0_2, 0))) else (if a0_2 = true then (if t198 = 0 then (none) else (if (Int.tmod a0_0 t198) = 0 then ((ineq_divided.f k a0_0 l0_1 t198).bind fun bt202 => (some (bt202.1, bt202.2, a0_2, 0))) else (some (1, ([] : List (S47)), true, 0)))) else ((ineq_divided.f k a0_0 l0_1 t198).bind fun bt206 => (some (bt206.1, bt206.2, a0_2, 0))))) = some (r1, r2, r3, r4) := H
  have A4 := zK A40
  clear A40
  by_cases c5 : t198 < 2
  ·rw [if_pos c5] at H
   have c5b0 : decide (t198 < 2) = true := decide_eq_true c5
   clear c5
   replace H := Option.bind_eq_some_iff.mp H
   obtain ⟨t199, A60, H⟩ := H
   replace H : (some (a0_0, t199, a0_2, 0)) = some (r1, r2, r3, r4) := H
   have A6 := zK A60
   clear A60
   simp only [Option.some.injEq, Prod.mk.injEq] at H
   obtain ⟨rfl, rfl, rfl, rfl⟩ := H
   go_enter Try.func15, Try.ntmps15
   try go_wp2_with (first | ((with_reducible refine gate_dst (N := 1) rfl ?_); refine box_event ?hg (N := 1) ?hd (cs := #[.int .i64 a0_0, .slice A0_1 l0_1.length c0_1, .bool a0_2]) (t := 30) ?hr ?_; (case hd => rfl); (case hg => rfl); (case hr => first | (go_simp; done) | (go_simp; rfl)); intro gb195 hg w7 hbox hb; have BK195 := zK (hbox); have GW195 := zK ((by rw [hg]; exact (below_size (zo HB)) : w.heap.size ≤ gb195)); have GE195 := zK ((by rw [hg]; exact (below_size (zo HB)) : w.heap.size ≤ gb195)); replace HB := zK (below_step (zo HB) hb); clear hb hbox hg) | ((with_reducible refine gate_dst (N := 2) rfl ?_); refine box_event ?hg (N := 2) ?hd (cs := #[.int .i64 0, .slice none 0 0, .bool false]) (t := 30) ?hr ?_; (case hd => rfl); (case hg => rfl); (case hr => first | (go_simp; done) | (go_simp; rfl)); intro gb196 hg w8 hbox hb; have BK196 := zK (hbox); have GW196 := zK ((by rw [hg]; exact (below_size (zo HB)) : w.heap.size ≤ gb196)); have GE196 := zK ((by rw [hg]; exact (below_size (zo HB)) : w.heap.size ≤ gb196)); replace HB := zK (below_step (zo HB) hb); have NB195_196 := zK ((by rw [hg]; exact Nat.ne_of_lt (blk_lt (g := gb195) (o := .cells #[.int .i64 a0_0, .slice A0_1 l0_1.length c0_1, .bool a0_2] 30 (0, 0)) (zb BK195)) : gb195 ≠ gb196)); have NB196_195 := zK ((by rw [hg]; exact Nat.ne_of_gt (blk_lt (g := gb195) (o := .cells #[.int .i64 a0_0, .slice A0_1 l0_1.length c0_1, .bool a0_2] 30 (0, 0)) (zb BK195)) : gb196 ≠ gb195)); replace BK195 := zK (blk_below (g := gb195) (o := .cells #[.int .i64 a0_0, .slice A0_1 l0_1.length c0_1, .bool a0_2] 30 (0, 0)) (zb BK195) hb); clear hb hbox hg; have hnb9 := NB195_196.out; have hnc9 := NB196_195.out; have hcz10_0 : w8.cell? ⟨gb195, 0, none⟩ = some (.int .i64 a0_0) := (blk_cell BK195.out 0).trans rfl; have hcz10_1 : w8.cell? ⟨gb195, 1, none⟩ = some (.slice A0_1 l0_1.length c0_1) := (blk_cell BK195.out 1).trans rfl; have hcz10_2 : w8.cell? ⟨gb195, 2, none⟩ = some (.bool a0_2) := (blk_cell BK195.out 2).trans rfl; have hfz10_0 := blk_frozen BK195.out 0; have hfz10_1 := blk_frozen BK195.out 1; have hfz10_2 := blk_frozen BK195.out 2) | ((with_reducible refine zC (f := 18) rfl ?_); refine goesL_ (some 7) rfl rfl Try.func18 (by kernel_rfl) rfl #[.agg #[.int .i64 a0_0, .slice A0_1 l0_1.length c0_1, .bool a0_2]] rfl (by (try simp only [List.map_toArray, List.map_cons, List.map_nil]); first | done | rfl | (simp only [List.length_drop, List.length_take]; rfl)) ?_; (with_reducible refine (ineq_Right.calls k a0_0 _ _ l0_1 a0_2 t197 _ ?side1 ?side2 A2.out).mono ?_); (case side1 => repeat (first | exact (Kd.C_below HR0_1.out HB.out) | (with_reducible refine cA ?_ _) | (with_reducible refine cN ?_ _) | (with_reducible refine cD ?_))); (case side2 => exact HC0_1.out); rintro e w11 ⟨rfl, hb⟩; refine ⟨_, rfl, ?_⟩; replace BK195 := zK (blk_below (g := gb195) (o := .cells #[.int .i64 a0_0, .slice A0_1 l0_1.length c0_1, .bool a0_2] 30 (0, 0)) (zb BK195) hb); replace BK196 := zK (blk_below (g := gb196) (o := .cells #[.int .i64 0, .slice none 0 0, .bool false] 30 (0, 0)) (zb BK196) hb); replace HB := zK (below_step (zo HB) hb); (try clear hb); (try clear hb2); (try clear hk); (try clear hi); have hcz12_0 : w11.cell? ⟨gb195, 0, none⟩ = some (.int .i64 a0_0) := (blk_cell BK195.out 0).trans rfl; have hcz12_1 : w11.cell? ⟨gb195, 1, none⟩ = some (.slice A0_1 l0_1.length c0_1) := (blk_cell BK195.out 1).trans rfl; have hcz12_2 : w11.cell? ⟨gb195, 2, none⟩ = some (.bool a0_2) := (blk_cell BK195.out 2).trans rfl; have hfz12_0 := blk_frozen BK195.out 0; have hfz12_1 := blk_frozen BK195.out 1; have hfz12_2 := blk_frozen BK195.out 2) | ((with_reducible refine zC (f := 36) rfl ?_); refine goesL_ (some 14) rfl rfl Try.func36 (by kernel_rfl) rfl #[.agg #[.int .i64 a0_0, .slice A0_1 l0_1.length c0_1]] rfl (by (try simp only [List.map_toArray, List.map_cons, List.map_nil]); first | done | rfl | (simp only [List.length_drop, List.length_take]; rfl)) ?_; (with_reducible refine (lin_Gcd.calls k a0_0 _ _ l0_1 t198 _ ?side1 ?side2 A4.out).mono ?_); (case side1 => repeat (first | exact (Kd.C_below HR0_1.out HB.out) | (with_reducible refine cA ?_ _) | (with_reducible refine cN ?_ _) | (with_reducible refine cD ?_))); (case side2 => exact HC0_1.out); rintro e w13 ⟨rfl, hb⟩; refine ⟨_, rfl, ?_⟩; replace BK195 := zK (blk_below (g := gb195) (o := .cells #[.int .i64 a0_0, .slice A0_1 l0_1.length c0_1, .bool a0_2] 30 (0, 0)) (zb BK195) hb); replace BK196 := zK (blk_below (g := gb196) (o := .cells #[.int .i64 0, .slice none 0 0, .bool false] 30 (0, 0)) (zb BK196) hb); replace HB := zK (below_step (zo HB) hb); (try clear hb); (try clear hb2); (try clear hk); (try clear hi)))
   replace BK195 := zK (zD BK195.out)
   replace BK196 := zK (zD BK196.out)
   replace HB := zK (yD HB.out)
   refine start_ (n := 13) (S := fun w' => w'.cell? ⟨gb195, 0, none⟩ = some (.int .i64 a0_0) ∧ w'.cell? ⟨gb195, 1, none⟩ = some (.slice A0_1 l0_1.length c0_1) ∧ w'.cell? ⟨gb195, 2, none⟩ = some (.bool a0_2)) (ds := []) #[false, false, false, false, false, false, false, false, false, false, false, false, false] (by kernel_rfl) rfl rfl ⟨(blk_cell BK195.out 0).trans rfl, (blk_cell BK195.out 1).trans rfl, (blk_cell BK195.out 2).trans rfl⟩ (fun hHeld => ?_); refine with_tabW ineq_Tight.tab6 ineq_Tight.bits6 (fun HT_ HW_ => ?_)
   generalize w13.drew = w14 at BK195 BK196 HB hHeld ⊢
   refine pure_ (i := 0) (N := some 18) (v := ?_) (a' := ?_) #[true, false, false, false, false, false, false, false, false, false, false, false, false] rfl rfl (any_of HT_.out (by kernel_rfl)) (fun _ _ _ h => h) (Or.inl ⟨by rfl, ?_⟩) ?_ ?_
   rotate_left
   ·intro w'
    go_simp
    with_reducible rfl
   rotate_left
   ·simp only [Act.put, List.setIfInBounds_toArray, List.set_cons_zero, List.set_cons_succ, i64_w, i32_w]
    rfl
   refine pure_ (i := 1) (N := some 19) (v := ?_) (a' := ?_) #[true, true, false, false, false, false, false, false, false, false, false, false, false] rfl rfl (any_of HT_.out (by kernel_rfl)) (fun _ _ _ h => h) (Or.inl ⟨by rfl, ?_⟩) ?_ ?_
   rotate_left
   ·intro w'
    go_simp
    with_reducible rfl
   rotate_left
   ·simp only [Act.put, List.setIfInBounds_toArray, List.set_cons_zero, List.set_cons_succ, i64_w, i32_w]
    rfl
   refine pure_ (i := 3) (N := some 21) (v := ?_) (a' := ?_) #[true, true, false, true, false, false, false, false, false, false, false, false, false] rfl rfl (any_of HT_.out (by kernel_rfl)) (fun _ _ _ h => h) (Or.inl ⟨by rfl, ?_⟩) ?_ ?_
   rotate_left
   ·intro w'
    go_simp
    with_reducible rfl
   rotate_left
   ·simp only [Act.put, List.setIfInBounds_toArray, List.set_cons_zero, List.set_cons_succ, i64_w, i32_w]
    rfl
   refine pure_ (i := 4) (N := some 22) (v := ?_) (a' := ?_) #[true, true, false, true, true, false, false, false, false, false, false, false, false] rfl rfl (any_of HT_.out (by kernel_rfl)) (fun _ _ _ h => h) (Or.inl ⟨by rfl, ?_⟩) ?_ ?_
   rotate_left
   ·intro w'
    go_simp
    with_reducible rfl
   rotate_left
   ·simp only [Act.put, List.setIfInBounds_toArray, List.set_cons_zero, List.set_cons_succ, i64_w, i32_w]
    rfl
   refine pure_ (i := 8) (N := some 26) (v := ?_) (a' := ?_) #[true, true, false, true, true, false, false, false, true, false, false, false, false] rfl rfl (any_of HT_.out (by kernel_rfl)) (fun _ _ _ h => h) (Or.inl ⟨by rfl, ?_⟩) ?_ ?_
   rotate_left
   ·intro w'
    go_simp
    with_reducible rfl
   rotate_left
   ·simp only [Act.put, List.setIfInBounds_toArray, List.set_cons_zero, List.set_cons_succ, i64_w, i32_w]
    rfl
   refine take_ (i := 2) (N := some 20) (v := ?_) (a' := ?_) #[true, true, true, true, true, false, false, false, true, false, false, false, false] rfl rfl (take_ofW HT_.out HW_.out (by kernel_rfl)) (fun _ _ _ h => h) (Or.inl ⟨by rfl, ?_⟩) hHeld ?_ ?_
   rotate_left
   ·rintro w' ⟨s0, s1, s2⟩
    go_simp
    with_reducible rfl
   rotate_left
   ·simp only [Act.put, List.setIfInBounds_toArray, List.set_cons_zero, List.set_cons_succ, i64_w, i32_w]
    rfl
   refine take_ (i := 5) (N := some 23) (v := ?_) (a' := ?_) #[true, true, true, true, true, true, false, false, true, false, false, false, false] rfl rfl (take_ofW HT_.out HW_.out (by kernel_rfl)) (fun _ _ _ h => h) (Or.inl ⟨by rfl, ?_⟩) hHeld ?_ ?_
   rotate_left
   ·rintro w' ⟨s0, s1, s2⟩
    go_simp
    with_reducible rfl
   rotate_left
   ·simp only [Act.put, List.setIfInBounds_toArray, List.set_cons_zero, List.set_cons_succ, i64_w, i32_w]
    rfl
   refine take_ (i := 9) (N := some 27) (v := ?_) (a' := ?_) #[true, true, true, true, true, true, false, false, true, true, false, false, false] rfl rfl (take_ofW HT_.out HW_.out (by kernel_rfl)) (fun _ _ _ h => h) (Or.inl ⟨by rfl, ?_⟩) hHeld ?_ ?_
   rotate_left
   ·rintro w' ⟨s0, s1, s2⟩
    go_simp
    with_reducible rfl
   rotate_left
   ·simp only [Act.put, List.setIfInBounds_toArray, List.set_cons_zero, List.set_cons_succ, i64_w, i32_w]
    rfl
   refine one_ (i := 6) (N := some 24) #[true, true, true, true, true, true, true, false, true, true, false, false, false] rfl rfl (one_of HT_.out (by kernel_rfl)) (by decide) (fun K hK => ?_)
   refine goes_ Try.func37 (by kernel_rfl) rfl #[.slice A0_1 l0_1.length c0_1] (by rfl) rfl rfl (by (try simp only [List.map_toArray, List.map_cons, List.map_nil]); first | done | rfl | (simp only [List.length_drop, List.length_take]; rfl)) ?_
   with_reducible refine (api_Mono_37.calls _ _ l0_1 t199 _ ?side1 ?side2 A6.out).mono ?_
   (case side1 => repeat (first | exact (Kd.C_below HR0_1.out HB.out) | (with_reducible refine cA ?_ _) | (with_reducible refine cN ?_ _) | (with_reducible refine cD ?_)))
   (case side2 => exact HC0_1.out)
   rintro e w15 ⟨v200, rfl, ho0, hb⟩
   refine ⟨_, rfl, ?_⟩
   have HO201 := zK (Kd.R_lower ho0 (below_size (zo HB)))
   replace BK195 := zK (blk_below (g := gb195) (o := .cells #[.int .i64 a0_0, .slice A0_1 l0_1.length c0_1, .bool a0_2] 30 (0, 0)) (zb BK195) hb)
   replace BK196 := zK (blk_below (g := gb196) (o := .cells #[.int .i64 0, .slice none 0 0, .bool false] 30 (0, 0)) (zb BK196) hb)
   replace HB := zK (below_step (zo HB) hb)
   (try clear hb)
   (try clear hb2)
   (try clear hk)
   (try clear hi)
   (try clear ho0)
   obtain ⟨Ao16, co16, eo16⟩ := Kd.R_slice HO201.out
   (first | subst eo16 | (injection eo16 with f1_ f2_ f3_; have f4_ := f1_.symm; have f5_ := f3_.symm; clear f1_ f2_ f3_; subst f4_; subst f5_))
   refine hK.out _ _ ⟨(blk_cell BK195.out 0).trans rfl, (blk_cell BK195.out 1).trans rfl, (blk_cell BK195.out 2).trans rfl⟩ (fun hHeld => ?_)
   clear hK K
   refine norm_ (a' := ?_) ?_ ?_
   rotate_left
   ·show Act.put _ (some 24) _ = _
    simp only [Act.put, List.setIfInBounds_toArray, List.set_cons_zero, List.set_cons_succ, i64_w, i32_w]
    rfl
   refine pure_ (i := 7) (N := some 25) (v := ?_) (a' := ?_) #[true, true, true, true, true, true, true, true, true, true, false, false, false] rfl rfl (any_of HT_.out (by kernel_rfl)) (fun _ _ _ h => h) (Or.inl ⟨by rfl, ?_⟩) ?_ ?_
   rotate_left
   ·intro w'
    go_simp
    with_reducible rfl
   rotate_left
   ·simp only [Act.put, List.setIfInBounds_toArray, List.set_cons_zero, List.set_cons_succ, i64_w, i32_w]
    rfl
   refine pure_ (i := 10) (N := some 28) (v := ?_) (a' := ?_) #[true, true, true, true, true, true, true, true, true, true, true, false, false] rfl rfl (any_of HT_.out (by kernel_rfl)) (fun _ _ _ h => h) (Or.inl ⟨by rfl, ?_⟩) ?_ ?_
   rotate_left
   ·intro w'
    go_simp
    with_reducible rfl
   rotate_left
   ·simp only [Act.put, List.setIfInBounds_toArray, List.set_cons_zero, List.set_cons_succ, i64_w, i32_w]
    rfl
   refine one_ (i := 11) (N := none) #[true, true, true, true, true, true, true, true, true, true, true, true, false] rfl rfl (one_of HT_.out (by kernel_rfl)) (by decide) (fun K hK => ?_)
   have hs17 : w15.cell? ⟨gb196, 0, none⟩ = some (.int .i64 0) := (blk_cell BK196.out 0).trans rfl
   have hfs17 := blk_frozen BK196.out 0
   have hns17_0 := NB195_196.out
   have hms17_0 := NB196_195.out
   have hs18 : w15.cell? ⟨gb196, 1, none⟩ = some (.slice none 0 0) := (blk_cell BK196.out 1).trans rfl
   have hfs18 := blk_frozen BK196.out 1
   have hns18_0 := NB195_196.out
   have hms18_0 := NB196_195.out
   have hs19 : w15.cell? ⟨gb196, 2, none⟩ = some (.bool false) := (blk_cell BK196.out 2).trans rfl
   have hfs19 := blk_frozen BK196.out 2
   have hns19_0 := NB195_196.out
   have hms19_0 := NB196_195.out
   refine skip_ (w1 := ?_) (by rfl) rfl ?_ ?_
   rotate_left
   ·go_simp
    rfl
   refine hK.out _ _ ⟨((cell_far (p := ⟨gb196, _, none⟩) NB195_196.out _).trans (((cell_far (p := ⟨gb196, _, none⟩) NB195_196.out _).trans (((cell_far (p := ⟨gb196, _, none⟩) NB195_196.out _).trans (hHeld.1)))))), ((cell_far (p := ⟨gb196, _, none⟩) NB195_196.out _).trans (((cell_far (p := ⟨gb196, _, none⟩) NB195_196.out _).trans (((cell_far (p := ⟨gb196, _, none⟩) NB195_196.out _).trans (hHeld.2.1)))))), ((cell_far (p := ⟨gb196, _, none⟩) NB195_196.out _).trans (((cell_far (p := ⟨gb196, _, none⟩) NB195_196.out _).trans (((cell_far (p := ⟨gb196, _, none⟩) NB195_196.out _).trans (hHeld.2.2))))))⟩ (fun hHeld => ?_)
   clear hK K
   refine pure_ (i := 12) (N := some 3) (v := ?_) (a' := ?_) #[true, true, true, true, true, true, true, true, true, true, true, true, true] rfl rfl (any_of HT_.out (by kernel_rfl)) (fun _ _ _ h => h) (Or.inl ⟨by rfl, ?_⟩) ?_ ?_
   rotate_left
   ·intro w'
    go_simp
    with_reducible rfl
   rotate_left
   ·simp only [Act.put, List.setIfInBounds_toArray, List.set_cons_zero, List.set_cons_succ, i64_w, i32_w]
    rfl
   refine done_ (done_of HT_.out (by kernel_rfl)) ?_
   try go_wp2
   refine bodyPost_ret (results_ct rfl _ _ gb196 30 #[.int .i64 a0_0, .slice Ao16 t199.length co16, .bool a0_2] (0, 0) _ rfl (by refine zM ?_; refine blk_put (cs := #[.int .i64 a0_0, .slice Ao16 t199.length co16, .bool false]) ?_ 2 _ rfl; refine zM ?_; refine blk_put (cs := #[.int .i64 a0_0, .slice none 0 0, .bool false]) ?_ 1 _ rfl; refine zM ?_; refine blk_put (cs := #[.int .i64 0, .slice none 0 0, .bool false]) ?_ 0 _ rfl; refine zM ?_; exact BK196.out) Try.underlying30 rfl (by kernel_rfl)) rfl ?_
   exact ⟨_, by first | rfl | (simp [errW_none, errW_some] <;> rfl) | (simp [*, errW_none, errW_some] <;> rfl), by (with_reducible repeat (first | apply Kd.R_alloc | apply Kd.R_drewN | apply Kd.R_drew)); exact Kd.R_mono (Kd.R_far (p := ⟨gb196, 2, none⟩) (Kd.R_far (p := ⟨gb196, 1, none⟩) (Kd.R_far (p := ⟨gb196, 0, none⟩) (Kd.R_types HO201.out BK196.out (by decide)) (fun _ hk => hk.2) (.int .i64 a0_0)) (fun _ hk => hk.2) (.slice Ao16 t199.length co16)) (fun _ hk => hk.2) (.bool a0_2)) (fun _ hk => trivial), zo HB⟩
  ·rw [if_neg c5] at H
   have c5b0 : decide (t198 < 2) = false := decide_eq_false c5
   clear c5
   by_cases c20 : a0_2 = true
   ·subst c20
    have H1 : (if t198 = 0 then (none) else (if (Int.tmod a0_0 t198) = 0 then ((ineq_divided.f k a0_0 l0_1 t198).bind fun bt202 => (some (bt202.1, bt202.2, true, 0))) else (some (1, ([] : List (S47)), true, 0)))) = some (r1, r2, r3, r4) := by rw [if_pos rfl] at H; exact H
    clear H
    have H := H1
    clear H1
    by_cases c21 : t198 = 0
    ·rw [if_pos c21] at H
     exact absurd H (by simp)
    ·rw [if_neg c21] at H
     have c21b0 : (t198 == 0) = false := beq_eq_false_iff_ne.mpr c21
     have c21b1 : (t198 != 0) = true := bne_iff_ne.mpr c21
     by_cases c22 : (Int.tmod a0_0 t198) = 0
     ·rw [if_pos c22] at H
      have c22b0 : ((Int.tmod a0_0 t198) == 0) = true := beq_iff_eq.mpr c22
      have c22b1 : ((Int.tmod a0_0 t198) != 0) = false := bne_eq_false_iff_eq.mpr c22
      clear c22
      replace H := Option.bind_eq_some_iff.mp H
      obtain ⟨⟨t202, t203⟩, A230, H⟩ := H
      replace H : (some (t202, t203, true, 0)) = some (r1, r2, r3, r4) := H
      have A23 := zK A230
      clear A230
      simp only [Option.some.injEq, Prod.mk.injEq] at H
      obtain ⟨rfl, rfl, rfl, rfl⟩ := H
      go_enter Try.func15, Try.ntmps15
      try go_wp2_with (first | ((with_reducible refine gate_dst (N := 1) rfl ?_); refine box_event ?hg (N := 1) ?hd (cs := #[.int .i64 a0_0, .slice A0_1 l0_1.length c0_1, .bool true]) (t := 30) ?hr ?_; (case hd => rfl); (case hg => rfl); (case hr => first | (go_simp; done) | (go_simp; rfl)); intro gb195 hg w24 hbox hb; have BK195 := zK (hbox); have GW195 := zK ((by rw [hg]; exact (below_size (zo HB)) : w.heap.size ≤ gb195)); have GE195 := zK ((by rw [hg]; exact (below_size (zo HB)) : w.heap.size ≤ gb195)); replace HB := zK (below_step (zo HB) hb); clear hb hbox hg) | ((with_reducible refine gate_dst (N := 2) rfl ?_); refine box_event ?hg (N := 2) ?hd (cs := #[.int .i64 0, .slice none 0 0, .bool false]) (t := 30) ?hr ?_; (case hd => rfl); (case hg => rfl); (case hr => first | (go_simp; done) | (go_simp; rfl)); intro gb196 hg w25 hbox hb; have BK196 := zK (hbox); have GW196 := zK ((by rw [hg]; exact (below_size (zo HB)) : w.heap.size ≤ gb196)); have GE196 := zK ((by rw [hg]; exact (below_size (zo HB)) : w.heap.size ≤ gb196)); replace HB := zK (below_step (zo HB) hb); have NB195_196 := zK ((by rw [hg]; exact Nat.ne_of_lt (blk_lt (g := gb195) (o := .cells #[.int .i64 a0_0, .slice A0_1 l0_1.length c0_1, .bool true] 30 (0, 0)) (zb BK195)) : gb195 ≠ gb196)); have NB196_195 := zK ((by rw [hg]; exact Nat.ne_of_gt (blk_lt (g := gb195) (o := .cells #[.int .i64 a0_0, .slice A0_1 l0_1.length c0_1, .bool true] 30 (0, 0)) (zb BK195)) : gb196 ≠ gb195)); replace BK195 := zK (blk_below (g := gb195) (o := .cells #[.int .i64 a0_0, .slice A0_1 l0_1.length c0_1, .bool true] 30 (0, 0)) (zb BK195) hb); clear hb hbox hg; have hnb26 := NB195_196.out; have hnc26 := NB196_195.out; have hcz27_0 : w25.cell? ⟨gb195, 0, none⟩ = some (.int .i64 a0_0) := (blk_cell BK195.out 0).trans rfl; have hcz27_1 : w25.cell? ⟨gb195, 1, none⟩ = some (.slice A0_1 l0_1.length c0_1) := (blk_cell BK195.out 1).trans rfl; have hcz27_2 : w25.cell? ⟨gb195, 2, none⟩ = some (.bool true) := (blk_cell BK195.out 2).trans rfl; have hfz27_0 := blk_frozen BK195.out 0; have hfz27_1 := blk_frozen BK195.out 1; have hfz27_2 := blk_frozen BK195.out 2) | ((with_reducible refine zC (f := 18) rfl ?_); refine goesL_ (some 7) rfl rfl Try.func18 (by kernel_rfl) rfl #[.agg #[.int .i64 a0_0, .slice A0_1 l0_1.length c0_1, .bool true]] rfl (by (try simp only [List.map_toArray, List.map_cons, List.map_nil]); first | done | rfl | (simp only [List.length_drop, List.length_take]; rfl)) ?_; (with_reducible refine (ineq_Right.calls k a0_0 _ _ l0_1 true t197 _ ?side1 ?side2 A2.out).mono ?_); (case side1 => repeat (first | exact (Kd.C_below HR0_1.out HB.out) | (with_reducible refine cA ?_ _) | (with_reducible refine cN ?_ _) | (with_reducible refine cD ?_))); (case side2 => exact HC0_1.out); rintro e w28 ⟨rfl, hb⟩; refine ⟨_, rfl, ?_⟩; replace BK195 := zK (blk_below (g := gb195) (o := .cells #[.int .i64 a0_0, .slice A0_1 l0_1.length c0_1, .bool true] 30 (0, 0)) (zb BK195) hb); replace BK196 := zK (blk_below (g := gb196) (o := .cells #[.int .i64 0, .slice none 0 0, .bool false] 30 (0, 0)) (zb BK196) hb); replace HB := zK (below_step (zo HB) hb); (try clear hb); (try clear hb2); (try clear hk); (try clear hi); have hcz29_0 : w28.cell? ⟨gb195, 0, none⟩ = some (.int .i64 a0_0) := (blk_cell BK195.out 0).trans rfl; have hcz29_1 : w28.cell? ⟨gb195, 1, none⟩ = some (.slice A0_1 l0_1.length c0_1) := (blk_cell BK195.out 1).trans rfl; have hcz29_2 : w28.cell? ⟨gb195, 2, none⟩ = some (.bool true) := (blk_cell BK195.out 2).trans rfl; have hfz29_0 := blk_frozen BK195.out 0; have hfz29_1 := blk_frozen BK195.out 1; have hfz29_2 := blk_frozen BK195.out 2) | ((with_reducible refine zC (f := 36) rfl ?_); refine goesL_ (some 14) rfl rfl Try.func36 (by kernel_rfl) rfl #[.agg #[.int .i64 a0_0, .slice A0_1 l0_1.length c0_1]] rfl (by (try simp only [List.map_toArray, List.map_cons, List.map_nil]); first | done | rfl | (simp only [List.length_drop, List.length_take]; rfl)) ?_; (with_reducible refine (lin_Gcd.calls k a0_0 _ _ l0_1 t198 _ ?side1 ?side2 A4.out).mono ?_); (case side1 => repeat (first | exact (Kd.C_below HR0_1.out HB.out) | (with_reducible refine cA ?_ _) | (with_reducible refine cN ?_ _) | (with_reducible refine cD ?_))); (case side2 => exact HC0_1.out); rintro e w30 ⟨rfl, hb⟩; refine ⟨_, rfl, ?_⟩; replace BK195 := zK (blk_below (g := gb195) (o := .cells #[.int .i64 a0_0, .slice A0_1 l0_1.length c0_1, .bool true] 30 (0, 0)) (zb BK195) hb); replace BK196 := zK (blk_below (g := gb196) (o := .cells #[.int .i64 0, .slice none 0 0, .bool false] 30 (0, 0)) (zb BK196) hb); replace HB := zK (below_step (zo HB) hb); (try clear hb); (try clear hb2); (try clear hk); (try clear hi); have hcz31_0 : w30.cell? ⟨gb195, 0, none⟩ = some (.int .i64 a0_0) := (blk_cell BK195.out 0).trans rfl; have hcz31_1 : w30.cell? ⟨gb195, 1, none⟩ = some (.slice A0_1 l0_1.length c0_1) := (blk_cell BK195.out 1).trans rfl; have hcz31_2 : w30.cell? ⟨gb195, 2, none⟩ = some (.bool true) := (blk_cell BK195.out 2).trans rfl; have hfz31_0 := blk_frozen BK195.out 0; have hfz31_1 := blk_frozen BK195.out 1; have hfz31_2 := blk_frozen BK195.out 2))
      replace BK195 := zK (zD BK195.out)
      replace BK196 := zK (zD BK196.out)
      replace HB := zK (yD HB.out)
      refine start_ (n := 9) (S := fun w' => w'.cell? ⟨gb195, 0, none⟩ = some (.int .i64 a0_0) ∧ w'.cell? ⟨gb195, 1, none⟩ = some (.slice A0_1 l0_1.length c0_1) ∧ w'.cell? ⟨gb195, 2, none⟩ = some (.bool true)) (ds := []) #[false, false, false, false, false, false, false, false, false] (by kernel_rfl) rfl rfl ⟨(blk_cell BK195.out 0).trans rfl, (blk_cell BK195.out 1).trans rfl, (blk_cell BK195.out 2).trans rfl⟩ (fun hHeld => ?_); refine with_tabW ineq_Tight.tab9 ineq_Tight.bits9 (fun HT_ HW_ => ?_)
      generalize w30.drew = w32 at BK195 BK196 HB hHeld ⊢
      refine pure_ (i := 0) (N := some 42) (v := ?_) (a' := ?_) #[true, false, false, false, false, false, false, false, false] rfl rfl (any_of HT_.out (by kernel_rfl)) (fun _ _ _ h => h) (Or.inl ⟨by rfl, ?_⟩) ?_ ?_
      rotate_left
      ·intro w'
       go_simp
       with_reducible rfl
      rotate_left
      ·simp only [Act.put, List.setIfInBounds_toArray, List.set_cons_zero, List.set_cons_succ, i64_w, i32_w]
       rfl
      refine pure_ (i := 2) (N := some 44) (v := ?_) (a' := ?_) #[true, false, true, false, false, false, false, false, false] rfl rfl (any_of HT_.out (by kernel_rfl)) (fun _ _ _ h => h) (Or.inl ⟨by rfl, ?_⟩) ?_ ?_
      rotate_left
      ·intro w'
       go_simp
       with_reducible rfl
      rotate_left
      ·simp only [Act.put, List.setIfInBounds_toArray, List.set_cons_zero, List.set_cons_succ, i64_w, i32_w]
       rfl
      refine pure_ (i := 4) (N := some 46) (v := ?_) (a' := ?_) #[true, false, true, false, true, false, false, false, false] rfl rfl (any_of HT_.out (by kernel_rfl)) (fun _ _ _ h => h) (Or.inl ⟨by rfl, ?_⟩) ?_ ?_
      rotate_left
      ·intro w'
       go_simp
       with_reducible rfl
      rotate_left
      ·simp only [Act.put, List.setIfInBounds_toArray, List.set_cons_zero, List.set_cons_succ, i64_w, i32_w]
       rfl
      refine take_ (i := 1) (N := some 43) (v := ?_) (a' := ?_) #[true, true, true, false, true, false, false, false, false] rfl rfl (take_ofW HT_.out HW_.out (by kernel_rfl)) (fun _ _ _ h => h) (Or.inl ⟨by rfl, ?_⟩) hHeld ?_ ?_
      rotate_left
      ·rintro w' ⟨s0, s1, s2⟩
       go_simp
       with_reducible rfl
      rotate_left
      ·simp only [Act.put, List.setIfInBounds_toArray, List.set_cons_zero, List.set_cons_succ, i64_w, i32_w]
       rfl
      refine take_ (i := 5) (N := some 47) (v := ?_) (a' := ?_) #[true, true, true, false, true, true, false, false, false] rfl rfl (take_ofW HT_.out HW_.out (by kernel_rfl)) (fun _ _ _ h => h) (Or.inl ⟨by rfl, ?_⟩) hHeld ?_ ?_
      rotate_left
      ·rintro w' ⟨s0, s1, s2⟩
       go_simp
       with_reducible rfl
      rotate_left
      ·simp only [Act.put, List.setIfInBounds_toArray, List.set_cons_zero, List.set_cons_succ, i64_w, i32_w]
       rfl
      refine one_ (i := 3) (N := some 45) #[true, true, true, true, true, true, false, false, false] rfl rfl (one_of HT_.out (by kernel_rfl)) (by decide) (fun K hK => ?_)
      refine goes_ Try.func31 (by kernel_rfl) rfl #[.agg #[.int .i64 a0_0, .slice A0_1 l0_1.length c0_1], .int .i64 t198] (by rfl) rfl rfl (by (try simp only [List.map_toArray, List.map_cons, List.map_nil]); first | done | rfl | (simp only [List.length_drop, List.length_take]; rfl)) ?_
      with_reducible refine (ineq_divided.calls k a0_0 _ _ l0_1 t198 t202 t203 _ ?side1 ?side2 A23.out).mono ?_
      (case side1 => repeat (first | exact (Kd.C_below HR0_1.out HB.out) | (with_reducible refine cA ?_ _) | (with_reducible refine cN ?_ _) | (with_reducible refine cD ?_)))
      (case side2 => exact HC0_1.out)
      rintro e w33 ⟨v204, rfl, ho0, hb⟩
      refine ⟨_, rfl, ?_⟩
      have HO205 := zK (Kd.R_lower ho0 (below_size (zo HB)))
      replace BK195 := zK (blk_below (g := gb195) (o := .cells #[.int .i64 a0_0, .slice A0_1 l0_1.length c0_1, .bool true] 30 (0, 0)) (zb BK195) hb)
      replace BK196 := zK (blk_below (g := gb196) (o := .cells #[.int .i64 0, .slice none 0 0, .bool false] 30 (0, 0)) (zb BK196) hb)
      replace HB := zK (below_step (zo HB) hb)
      (try clear hb)
      (try clear hb2)
      (try clear hk)
      (try clear hi)
      (try clear ho0)
      obtain ⟨Ao34, co34, eo34⟩ := Kd.R_slice HO205.out
      (first | subst eo34 | (injection eo34 with f1_ f2_ f3_; have f4_ := f1_.symm; have f5_ := f3_.symm; clear f1_ f2_ f3_; subst f4_; subst f5_))
      refine hK.out _ _ ⟨(blk_cell BK195.out 0).trans rfl, (blk_cell BK195.out 1).trans rfl, (blk_cell BK195.out 2).trans rfl⟩ (fun hHeld => ?_)
      clear hK K
      refine norm_ (a' := ?_) ?_ ?_
      rotate_left
      ·show Act.put _ (some 45) _ = _
       simp only [Act.put, List.setIfInBounds_toArray, List.set_cons_zero, List.set_cons_succ, i64_w, i32_w]
       rfl
      refine pure_ (i := 6) (N := some 48) (v := ?_) (a' := ?_) #[true, true, true, true, true, true, true, false, false] rfl rfl (any_of HT_.out (by kernel_rfl)) (fun _ _ _ h => h) (Or.inl ⟨by rfl, ?_⟩) ?_ ?_
      rotate_left
      ·intro w'
       go_simp
       with_reducible rfl
      rotate_left
      ·simp only [Act.put, List.setIfInBounds_toArray, List.set_cons_zero, List.set_cons_succ, i64_w, i32_w]
       rfl
      refine one_ (i := 7) (N := none) #[true, true, true, true, true, true, true, true, false] rfl rfl (one_of HT_.out (by kernel_rfl)) (by decide) (fun K hK => ?_)
      have hs35 : w33.cell? ⟨gb196, 0, none⟩ = some (.int .i64 0) := (blk_cell BK196.out 0).trans rfl
      have hfs35 := blk_frozen BK196.out 0
      have hns35_0 := NB195_196.out
      have hms35_0 := NB196_195.out
      have hs36 : w33.cell? ⟨gb196, 1, none⟩ = some (.slice none 0 0) := (blk_cell BK196.out 1).trans rfl
      have hfs36 := blk_frozen BK196.out 1
      have hns36_0 := NB195_196.out
      have hms36_0 := NB196_195.out
      have hs37 : w33.cell? ⟨gb196, 2, none⟩ = some (.bool false) := (blk_cell BK196.out 2).trans rfl
      have hfs37 := blk_frozen BK196.out 2
      have hns37_0 := NB195_196.out
      have hms37_0 := NB196_195.out
      refine skip_ (w1 := ?_) (by rfl) rfl ?_ ?_
      rotate_left
      ·go_simp
       rfl
      refine hK.out _ _ ⟨((cell_far (p := ⟨gb196, _, none⟩) NB195_196.out _).trans (((cell_far (p := ⟨gb196, _, none⟩) NB195_196.out _).trans (((cell_far (p := ⟨gb196, _, none⟩) NB195_196.out _).trans (hHeld.1)))))), ((cell_far (p := ⟨gb196, _, none⟩) NB195_196.out _).trans (((cell_far (p := ⟨gb196, _, none⟩) NB195_196.out _).trans (((cell_far (p := ⟨gb196, _, none⟩) NB195_196.out _).trans (hHeld.2.1)))))), ((cell_far (p := ⟨gb196, _, none⟩) NB195_196.out _).trans (((cell_far (p := ⟨gb196, _, none⟩) NB195_196.out _).trans (((cell_far (p := ⟨gb196, _, none⟩) NB195_196.out _).trans (hHeld.2.2))))))⟩ (fun hHeld => ?_)
      clear hK K
      refine pure_ (i := 8) (N := some 3) (v := ?_) (a' := ?_) #[true, true, true, true, true, true, true, true, true] rfl rfl (any_of HT_.out (by kernel_rfl)) (fun _ _ _ h => h) (Or.inl ⟨by rfl, ?_⟩) ?_ ?_
      rotate_left
      ·intro w'
       go_simp
       with_reducible rfl
      rotate_left
      ·simp only [Act.put, List.setIfInBounds_toArray, List.set_cons_zero, List.set_cons_succ, i64_w, i32_w]
       rfl
      refine done_ (done_of HT_.out (by kernel_rfl)) ?_
      try go_wp2
      refine bodyPost_ret (results_ct rfl _ _ gb196 30 #[.int .i64 t202, .slice Ao34 t203.length co34, .bool true] (0, 0) _ rfl (by refine zM ?_; refine blk_put (cs := #[.int .i64 t202, .slice Ao34 t203.length co34, .bool false]) ?_ 2 _ rfl; refine zM ?_; refine blk_put (cs := #[.int .i64 t202, .slice none 0 0, .bool false]) ?_ 1 _ rfl; refine zM ?_; refine blk_put (cs := #[.int .i64 0, .slice none 0 0, .bool false]) ?_ 0 _ rfl; refine zM ?_; exact BK196.out) Try.underlying30 rfl (by kernel_rfl)) rfl ?_
      exact ⟨_, by first | rfl | (simp [errW_none, errW_some] <;> rfl) | (simp [*, errW_none, errW_some] <;> rfl), by (with_reducible repeat (first | apply Kd.R_alloc | apply Kd.R_drewN | apply Kd.R_drew)); exact Kd.R_mono (Kd.R_far (p := ⟨gb196, 2, none⟩) (Kd.R_far (p := ⟨gb196, 1, none⟩) (Kd.R_far (p := ⟨gb196, 0, none⟩) (Kd.R_types HO205.out BK196.out (by decide)) (fun _ hk => hk.2) (.int .i64 t202)) (fun _ hk => hk.2) (.slice Ao34 t203.length co34)) (fun _ hk => hk.2) (.bool true)) (fun _ hk => trivial), zo HB⟩
     ·rw [if_neg c22] at H
      have c22b0 : ((Int.tmod a0_0 t198) == 0) = false := beq_eq_false_iff_ne.mpr c22
      have c22b1 : ((Int.tmod a0_0 t198) != 0) = true := bne_iff_ne.mpr c22
      simp only [Option.some.injEq, Prod.mk.injEq] at H
      obtain ⟨rfl, rfl, rfl, rfl⟩ := H
      go_enter Try.func15, Try.ntmps15
      go_wp2_with (first | ((with_reducible refine gate_dst (N := 1) rfl ?_); refine box_event ?hg (N := 1) ?hd (cs := #[.int .i64 a0_0, .slice A0_1 l0_1.length c0_1, .bool true]) (t := 30) ?hr ?_; (case hd => rfl); (case hg => rfl); (case hr => first | (go_simp; done) | (go_simp; rfl)); intro gb195 hg w38 hbox hb; have BK195 := zK (hbox); have GW195 := zK ((by rw [hg]; exact (below_size (zo HB)) : w.heap.size ≤ gb195)); have GE195 := zK ((by rw [hg]; exact (below_size (zo HB)) : w.heap.size ≤ gb195)); replace HB := zK (below_step (zo HB) hb); clear hb hbox hg) | ((with_reducible refine gate_dst (N := 2) rfl ?_); refine box_event ?hg (N := 2) ?hd (cs := #[.int .i64 0, .slice none 0 0, .bool false]) (t := 30) ?hr ?_; (case hd => rfl); (case hg => rfl); (case hr => first | (go_simp; done) | (go_simp; rfl)); intro gb196 hg w39 hbox hb; have BK196 := zK (hbox); have GW196 := zK ((by rw [hg]; exact (below_size (zo HB)) : w.heap.size ≤ gb196)); have GE196 := zK ((by rw [hg]; exact (below_size (zo HB)) : w.heap.size ≤ gb196)); replace HB := zK (below_step (zo HB) hb); have NB195_196 := zK ((by rw [hg]; exact Nat.ne_of_lt (blk_lt (g := gb195) (o := .cells #[.int .i64 a0_0, .slice A0_1 l0_1.length c0_1, .bool true] 30 (0, 0)) (zb BK195)) : gb195 ≠ gb196)); have NB196_195 := zK ((by rw [hg]; exact Nat.ne_of_gt (blk_lt (g := gb195) (o := .cells #[.int .i64 a0_0, .slice A0_1 l0_1.length c0_1, .bool true] 30 (0, 0)) (zb BK195)) : gb196 ≠ gb195)); replace BK195 := zK (blk_below (g := gb195) (o := .cells #[.int .i64 a0_0, .slice A0_1 l0_1.length c0_1, .bool true] 30 (0, 0)) (zb BK195) hb); clear hb hbox hg; have hnb40 := NB195_196.out; have hnc40 := NB196_195.out; have hcz41_0 : w39.cell? ⟨gb195, 0, none⟩ = some (.int .i64 a0_0) := (blk_cell BK195.out 0).trans rfl; have hcz41_1 : w39.cell? ⟨gb195, 1, none⟩ = some (.slice A0_1 l0_1.length c0_1) := (blk_cell BK195.out 1).trans rfl; have hcz41_2 : w39.cell? ⟨gb195, 2, none⟩ = some (.bool true) := (blk_cell BK195.out 2).trans rfl; have hfz41_0 := blk_frozen BK195.out 0; have hfz41_1 := blk_frozen BK195.out 1; have hfz41_2 := blk_frozen BK195.out 2) | ((with_reducible refine zC (f := 18) rfl ?_); refine goesL_ (some 7) rfl rfl Try.func18 (by kernel_rfl) rfl #[.agg #[.int .i64 a0_0, .slice A0_1 l0_1.length c0_1, .bool true]] rfl (by (try simp only [List.map_toArray, List.map_cons, List.map_nil]); first | done | rfl | (simp only [List.length_drop, List.length_take]; rfl)) ?_; (with_reducible refine (ineq_Right.calls k a0_0 _ _ l0_1 true t197 _ ?side1 ?side2 A2.out).mono ?_); (case side1 => repeat (first | exact (Kd.C_below HR0_1.out HB.out) | (with_reducible refine cA ?_ _) | (with_reducible refine cN ?_ _) | (with_reducible refine cD ?_))); (case side2 => exact HC0_1.out); rintro e w42 ⟨rfl, hb⟩; refine ⟨_, rfl, ?_⟩; replace BK195 := zK (blk_below (g := gb195) (o := .cells #[.int .i64 a0_0, .slice A0_1 l0_1.length c0_1, .bool true] 30 (0, 0)) (zb BK195) hb); replace BK196 := zK (blk_below (g := gb196) (o := .cells #[.int .i64 0, .slice none 0 0, .bool false] 30 (0, 0)) (zb BK196) hb); replace HB := zK (below_step (zo HB) hb); (try clear hb); (try clear hb2); (try clear hk); (try clear hi); have hcz43_0 : w42.cell? ⟨gb195, 0, none⟩ = some (.int .i64 a0_0) := (blk_cell BK195.out 0).trans rfl; have hcz43_1 : w42.cell? ⟨gb195, 1, none⟩ = some (.slice A0_1 l0_1.length c0_1) := (blk_cell BK195.out 1).trans rfl; have hcz43_2 : w42.cell? ⟨gb195, 2, none⟩ = some (.bool true) := (blk_cell BK195.out 2).trans rfl; have hfz43_0 := blk_frozen BK195.out 0; have hfz43_1 := blk_frozen BK195.out 1; have hfz43_2 := blk_frozen BK195.out 2) | ((with_reducible refine zC (f := 36) rfl ?_); refine goesL_ (some 14) rfl rfl Try.func36 (by kernel_rfl) rfl #[.agg #[.int .i64 a0_0, .slice A0_1 l0_1.length c0_1]] rfl (by (try simp only [List.map_toArray, List.map_cons, List.map_nil]); first | done | rfl | (simp only [List.length_drop, List.length_take]; rfl)) ?_; (with_reducible refine (lin_Gcd.calls k a0_0 _ _ l0_1 t198 _ ?side1 ?side2 A4.out).mono ?_); (case side1 => repeat (first | exact (Kd.C_below HR0_1.out HB.out) | (with_reducible refine cA ?_ _) | (with_reducible refine cN ?_ _) | (with_reducible refine cD ?_))); (case side2 => exact HC0_1.out); rintro e w44 ⟨rfl, hb⟩; refine ⟨_, rfl, ?_⟩; replace BK195 := zK (blk_below (g := gb195) (o := .cells #[.int .i64 a0_0, .slice A0_1 l0_1.length c0_1, .bool true] 30 (0, 0)) (zb BK195) hb); replace BK196 := zK (blk_below (g := gb196) (o := .cells #[.int .i64 0, .slice none 0 0, .bool false] 30 (0, 0)) (zb BK196) hb); replace HB := zK (below_step (zo HB) hb); (try clear hb); (try clear hb2); (try clear hk); (try clear hi); have hcz45_0 : w44.cell? ⟨gb195, 0, none⟩ = some (.int .i64 a0_0) := (blk_cell BK195.out 0).trans rfl; have hcz45_1 : w44.cell? ⟨gb195, 1, none⟩ = some (.slice A0_1 l0_1.length c0_1) := (blk_cell BK195.out 1).trans rfl; have hcz45_2 : w44.cell? ⟨gb195, 2, none⟩ = some (.bool true) := (blk_cell BK195.out 2).trans rfl; have hfz45_0 := blk_frozen BK195.out 0; have hfz45_1 := blk_frozen BK195.out 1; have hfz45_2 := blk_frozen BK195.out 2; have hcz46_0 : w44.cell? ⟨gb196, 0, none⟩ = some (.int .i64 0) := (blk_cell BK196.out 0).trans rfl; have hcz46_1 : w44.cell? ⟨gb196, 1, none⟩ = some (.slice none 0 0) := (blk_cell BK196.out 1).trans rfl; have hcz46_2 : w44.cell? ⟨gb196, 2, none⟩ = some (.bool false) := (blk_cell BK196.out 2).trans rfl; have hfz46_0 := blk_frozen BK196.out 0; have hfz46_1 := blk_frozen BK196.out 1; have hfz46_2 := blk_frozen BK196.out 2))
      refine bodyPost_ret (results_ct rfl _ _ gb196 30 #[.int .i64 1, .slice none 0 0, .bool true] (0, 0) _ rfl (by refine zM ?_; refine blk_put (cs := #[.int .i64 1, .slice none 0 0, .bool false]) ?_ 2 _ rfl; refine zM ?_; refine blk_put (cs := #[.int .i64 1, .slice none 0 0, .bool false]) ?_ 1 _ rfl; refine zM ?_; refine blk_put (cs := #[.int .i64 0, .slice none 0 0, .bool false]) ?_ 0 _ rfl; refine zM ?_; exact BK196.out) Try.underlying30 rfl (by kernel_rfl)) rfl ?_
      exact ⟨_, by first | rfl | (simp [errW_none, errW_some] <;> rfl) | (simp [*, errW_none, errW_some] <;> rfl), by first | exact Kd.R_nil _ _ _ _ _ | exact Kd.N_nil _ _ _ _ _ | exact Kd.V_nil _ _ _ _ _ | exact Kd.Q_nil _ _ _ _ _ | exact Kd.S_nil _ _ _ _ _, zo HB⟩
   ·replace c20 := Bool.eq_false_iff.mpr c20
    subst c20
    have H1 : ((ineq_divided.f k a0_0 l0_1 t198).bind fun bt206 => (some (bt206.1, bt206.2, false, 0))) = some (r1, r2, r3, r4) := by rw [if_neg (show ¬ (false = true) by decide)] at H; exact H
    clear H
    have H := H1
    clear H1
    replace H := Option.bind_eq_some_iff.mp H
    obtain ⟨⟨t206, t207⟩, A470, H⟩ := H
    replace H : (some (t206, t207, false, 0)) = some (r1, r2, r3, r4) := H
    have A47 := zK A470
    clear A470
    simp only [Option.some.injEq, Prod.mk.injEq] at H
    obtain ⟨rfl, rfl, rfl, rfl⟩ := H
    go_enter Try.func15, Try.ntmps15
    try go_wp2_with (first | ((with_reducible refine gate_dst (N := 1) rfl ?_); refine box_event ?hg (N := 1) ?hd (cs := #[.int .i64 a0_0, .slice A0_1 l0_1.length c0_1, .bool false]) (t := 30) ?hr ?_; (case hd => rfl); (case hg => rfl); (case hr => first | (go_simp; done) | (go_simp; rfl)); intro gb195 hg w48 hbox hb; have BK195 := zK (hbox); have GW195 := zK ((by rw [hg]; exact (below_size (zo HB)) : w.heap.size ≤ gb195)); have GE195 := zK ((by rw [hg]; exact (below_size (zo HB)) : w.heap.size ≤ gb195)); replace HB := zK (below_step (zo HB) hb); clear hb hbox hg) | ((with_reducible refine gate_dst (N := 2) rfl ?_); refine box_event ?hg (N := 2) ?hd (cs := #[.int .i64 0, .slice none 0 0, .bool false]) (t := 30) ?hr ?_; (case hd => rfl); (case hg => rfl); (case hr => first | (go_simp; done) | (go_simp; rfl)); intro gb196 hg w49 hbox hb; have BK196 := zK (hbox); have GW196 := zK ((by rw [hg]; exact (below_size (zo HB)) : w.heap.size ≤ gb196)); have GE196 := zK ((by rw [hg]; exact (below_size (zo HB)) : w.heap.size ≤ gb196)); replace HB := zK (below_step (zo HB) hb); have NB195_196 := zK ((by rw [hg]; exact Nat.ne_of_lt (blk_lt (g := gb195) (o := .cells #[.int .i64 a0_0, .slice A0_1 l0_1.length c0_1, .bool false] 30 (0, 0)) (zb BK195)) : gb195 ≠ gb196)); have NB196_195 := zK ((by rw [hg]; exact Nat.ne_of_gt (blk_lt (g := gb195) (o := .cells #[.int .i64 a0_0, .slice A0_1 l0_1.length c0_1, .bool false] 30 (0, 0)) (zb BK195)) : gb196 ≠ gb195)); replace BK195 := zK (blk_below (g := gb195) (o := .cells #[.int .i64 a0_0, .slice A0_1 l0_1.length c0_1, .bool false] 30 (0, 0)) (zb BK195) hb); clear hb hbox hg; have hnb50 := NB195_196.out; have hnc50 := NB196_195.out; have hcz51_0 : w49.cell? ⟨gb195, 0, none⟩ = some (.int .i64 a0_0) := (blk_cell BK195.out 0).trans rfl; have hcz51_1 : w49.cell? ⟨gb195, 1, none⟩ = some (.slice A0_1 l0_1.length c0_1) := (blk_cell BK195.out 1).trans rfl; have hcz51_2 : w49.cell? ⟨gb195, 2, none⟩ = some (.bool false) := (blk_cell BK195.out 2).trans rfl; have hfz51_0 := blk_frozen BK195.out 0; have hfz51_1 := blk_frozen BK195.out 1; have hfz51_2 := blk_frozen BK195.out 2) | ((with_reducible refine zC (f := 18) rfl ?_); refine goesL_ (some 7) rfl rfl Try.func18 (by kernel_rfl) rfl #[.agg #[.int .i64 a0_0, .slice A0_1 l0_1.length c0_1, .bool false]] rfl (by (try simp only [List.map_toArray, List.map_cons, List.map_nil]); first | done | rfl | (simp only [List.length_drop, List.length_take]; rfl)) ?_; (with_reducible refine (ineq_Right.calls k a0_0 _ _ l0_1 false t197 _ ?side1 ?side2 A2.out).mono ?_); (case side1 => repeat (first | exact (Kd.C_below HR0_1.out HB.out) | (with_reducible refine cA ?_ _) | (with_reducible refine cN ?_ _) | (with_reducible refine cD ?_))); (case side2 => exact HC0_1.out); rintro e w52 ⟨rfl, hb⟩; refine ⟨_, rfl, ?_⟩; replace BK195 := zK (blk_below (g := gb195) (o := .cells #[.int .i64 a0_0, .slice A0_1 l0_1.length c0_1, .bool false] 30 (0, 0)) (zb BK195) hb); replace BK196 := zK (blk_below (g := gb196) (o := .cells #[.int .i64 0, .slice none 0 0, .bool false] 30 (0, 0)) (zb BK196) hb); replace HB := zK (below_step (zo HB) hb); (try clear hb); (try clear hb2); (try clear hk); (try clear hi); have hcz53_0 : w52.cell? ⟨gb195, 0, none⟩ = some (.int .i64 a0_0) := (blk_cell BK195.out 0).trans rfl; have hcz53_1 : w52.cell? ⟨gb195, 1, none⟩ = some (.slice A0_1 l0_1.length c0_1) := (blk_cell BK195.out 1).trans rfl; have hcz53_2 : w52.cell? ⟨gb195, 2, none⟩ = some (.bool false) := (blk_cell BK195.out 2).trans rfl; have hfz53_0 := blk_frozen BK195.out 0; have hfz53_1 := blk_frozen BK195.out 1; have hfz53_2 := blk_frozen BK195.out 2) | ((with_reducible refine zC (f := 36) rfl ?_); refine goesL_ (some 14) rfl rfl Try.func36 (by kernel_rfl) rfl #[.agg #[.int .i64 a0_0, .slice A0_1 l0_1.length c0_1]] rfl (by (try simp only [List.map_toArray, List.map_cons, List.map_nil]); first | done | rfl | (simp only [List.length_drop, List.length_take]; rfl)) ?_; (with_reducible refine (lin_Gcd.calls k a0_0 _ _ l0_1 t198 _ ?side1 ?side2 A4.out).mono ?_); (case side1 => repeat (first | exact (Kd.C_below HR0_1.out HB.out) | (with_reducible refine cA ?_ _) | (with_reducible refine cN ?_ _) | (with_reducible refine cD ?_))); (case side2 => exact HC0_1.out); rintro e w54 ⟨rfl, hb⟩; refine ⟨_, rfl, ?_⟩; replace BK195 := zK (blk_below (g := gb195) (o := .cells #[.int .i64 a0_0, .slice A0_1 l0_1.length c0_1, .bool false] 30 (0, 0)) (zb BK195) hb); replace BK196 := zK (blk_below (g := gb196) (o := .cells #[.int .i64 0, .slice none 0 0, .bool false] 30 (0, 0)) (zb BK196) hb); replace HB := zK (below_step (zo HB) hb); (try clear hb); (try clear hb2); (try clear hk); (try clear hi); have hcz55_0 : w54.cell? ⟨gb195, 0, none⟩ = some (.int .i64 a0_0) := (blk_cell BK195.out 0).trans rfl; have hcz55_1 : w54.cell? ⟨gb195, 1, none⟩ = some (.slice A0_1 l0_1.length c0_1) := (blk_cell BK195.out 1).trans rfl; have hcz55_2 : w54.cell? ⟨gb195, 2, none⟩ = some (.bool false) := (blk_cell BK195.out 2).trans rfl; have hfz55_0 := blk_frozen BK195.out 0; have hfz55_1 := blk_frozen BK195.out 1; have hfz55_2 := blk_frozen BK195.out 2))
    replace BK195 := zK (zD BK195.out)
    replace BK196 := zK (zD BK196.out)
    replace HB := zK (yD HB.out)
    refine start_ (n := 9) (S := fun w' => w'.cell? ⟨gb195, 0, none⟩ = some (.int .i64 a0_0) ∧ w'.cell? ⟨gb195, 1, none⟩ = some (.slice A0_1 l0_1.length c0_1) ∧ w'.cell? ⟨gb195, 2, none⟩ = some (.bool false)) (ds := []) #[false, false, false, false, false, false, false, false, false] (by kernel_rfl) rfl rfl ⟨(blk_cell BK195.out 0).trans rfl, (blk_cell BK195.out 1).trans rfl, (blk_cell BK195.out 2).trans rfl⟩ (fun hHeld => ?_); refine with_tabW ineq_Tight.tab9 ineq_Tight.bits9 (fun HT_ HW_ => ?_)
    generalize w54.drew = w56 at BK195 BK196 HB hHeld ⊢
    refine pure_ (i := 0) (N := some 42) (v := ?_) (a' := ?_) #[true, false, false, false, false, false, false, false, false] rfl rfl (any_of HT_.out (by kernel_rfl)) (fun _ _ _ h => h) (Or.inl ⟨by rfl, ?_⟩) ?_ ?_
    rotate_left
    ·intro w'
     go_simp
     with_reducible rfl
    rotate_left
    ·simp only [Act.put, List.setIfInBounds_toArray, List.set_cons_zero, List.set_cons_succ, i64_w, i32_w]
     rfl
    refine pure_ (i := 2) (N := some 44) (v := ?_) (a' := ?_) #[true, false, true, false, false, false, false, false, false] rfl rfl (any_of HT_.out (by kernel_rfl)) (fun _ _ _ h => h) (Or.inl ⟨by rfl, ?_⟩) ?_ ?_
    rotate_left
    ·intro w'
     go_simp
     with_reducible rfl
    rotate_left
    ·simp only [Act.put, List.setIfInBounds_toArray, List.set_cons_zero, List.set_cons_succ, i64_w, i32_w]
     rfl
    refine pure_ (i := 4) (N := some 46) (v := ?_) (a' := ?_) #[true, false, true, false, true, false, false, false, false] rfl rfl (any_of HT_.out (by kernel_rfl)) (fun _ _ _ h => h) (Or.inl ⟨by rfl, ?_⟩) ?_ ?_
    rotate_left
    ·intro w'
     go_simp
     with_reducible rfl
    rotate_left
    ·simp only [Act.put, List.setIfInBounds_toArray, List.set_cons_zero, List.set_cons_succ, i64_w, i32_w]
     rfl
    refine take_ (i := 1) (N := some 43) (v := ?_) (a' := ?_) #[true, true, true, false, true, false, false, false, false] rfl rfl (take_ofW HT_.out HW_.out (by kernel_rfl)) (fun _ _ _ h => h) (Or.inl ⟨by rfl, ?_⟩) hHeld ?_ ?_
    rotate_left
    ·rintro w' ⟨s0, s1, s2⟩
     go_simp
     with_reducible rfl
    rotate_left
    ·simp only [Act.put, List.setIfInBounds_toArray, List.set_cons_zero, List.set_cons_succ, i64_w, i32_w]
     rfl
    refine take_ (i := 5) (N := some 47) (v := ?_) (a' := ?_) #[true, true, true, false, true, true, false, false, false] rfl rfl (take_ofW HT_.out HW_.out (by kernel_rfl)) (fun _ _ _ h => h) (Or.inl ⟨by rfl, ?_⟩) hHeld ?_ ?_
    rotate_left
    ·rintro w' ⟨s0, s1, s2⟩
     go_simp
     with_reducible rfl
    rotate_left
    ·simp only [Act.put, List.setIfInBounds_toArray, List.set_cons_zero, List.set_cons_succ, i64_w, i32_w]
     rfl
    refine one_ (i := 3) (N := some 45) #[true, true, true, true, true, true, false, false, false] rfl rfl (one_of HT_.out (by kernel_rfl)) (by decide) (fun K hK => ?_)
    refine goes_ Try.func31 (by kernel_rfl) rfl #[.agg #[.int .i64 a0_0, .slice A0_1 l0_1.length c0_1], .int .i64 t198] (by rfl) rfl rfl (by (try simp only [List.map_toArray, List.map_cons, List.map_nil]); first | done | rfl | (simp only [List.length_drop, List.length_take]; rfl)) ?_
    with_reducible refine (ineq_divided.calls k a0_0 _ _ l0_1 t198 t206 t207 _ ?side1 ?side2 A47.out).mono ?_
    (case side1 => repeat (first | exact (Kd.C_below HR0_1.out HB.out) | (with_reducible refine cA ?_ _) | (with_reducible refine cN ?_ _) | (with_reducible refine cD ?_)))
    (case side2 => exact HC0_1.out)
    rintro e w57 ⟨v208, rfl, ho0, hb⟩
    refine ⟨_, rfl, ?_⟩
    have HO209 := zK (Kd.R_lower ho0 (below_size (zo HB)))
    replace BK195 := zK (blk_below (g := gb195) (o := .cells #[.int .i64 a0_0, .slice A0_1 l0_1.length c0_1, .bool false] 30 (0, 0)) (zb BK195) hb)
    replace BK196 := zK (blk_below (g := gb196) (o := .cells #[.int .i64 0, .slice none 0 0, .bool false] 30 (0, 0)) (zb BK196) hb)
    replace HB := zK (below_step (zo HB) hb)
    (try clear hb)
    (try clear hb2)
    (try clear hk)
    (try clear hi)
    (try clear ho0)
    obtain ⟨Ao58, co58, eo58⟩ := Kd.R_slice HO209.out
    (first | subst eo58 | (injection eo58 with f1_ f2_ f3_; have f4_ := f1_.symm; have f5_ := f3_.symm; clear f1_ f2_ f3_; subst f4_; subst f5_))
    refine hK.out _ _ ⟨(blk_cell BK195.out 0).trans rfl, (blk_cell BK195.out 1).trans rfl, (blk_cell BK195.out 2).trans rfl⟩ (fun hHeld => ?_)
    clear hK K
    refine norm_ (a' := ?_) ?_ ?_
    rotate_left
    ·show Act.put _ (some 45) _ = _
     simp only [Act.put, List.setIfInBounds_toArray, List.set_cons_zero, List.set_cons_succ, i64_w, i32_w]
     rfl
    refine pure_ (i := 6) (N := some 48) (v := ?_) (a' := ?_) #[true, true, true, true, true, true, true, false, false] rfl rfl (any_of HT_.out (by kernel_rfl)) (fun _ _ _ h => h) (Or.inl ⟨by rfl, ?_⟩) ?_ ?_
    rotate_left
    ·intro w'
     go_simp
     with_reducible rfl
    rotate_left
    ·simp only [Act.put, List.setIfInBounds_toArray, List.set_cons_zero, List.set_cons_succ, i64_w, i32_w]
     rfl
    refine one_ (i := 7) (N := none) #[true, true, true, true, true, true, true, true, false] rfl rfl (one_of HT_.out (by kernel_rfl)) (by decide) (fun K hK => ?_)
    have hs59 : w57.cell? ⟨gb196, 0, none⟩ = some (.int .i64 0) := (blk_cell BK196.out 0).trans rfl
    have hfs59 := blk_frozen BK196.out 0
    have hns59_0 := NB195_196.out
    have hms59_0 := NB196_195.out
    have hs60 : w57.cell? ⟨gb196, 1, none⟩ = some (.slice none 0 0) := (blk_cell BK196.out 1).trans rfl
    have hfs60 := blk_frozen BK196.out 1
    have hns60_0 := NB195_196.out
    have hms60_0 := NB196_195.out
    have hs61 : w57.cell? ⟨gb196, 2, none⟩ = some (.bool false) := (blk_cell BK196.out 2).trans rfl
    have hfs61 := blk_frozen BK196.out 2
    have hns61_0 := NB195_196.out
    have hms61_0 := NB196_195.out
    refine skip_ (w1 := ?_) (by rfl) rfl ?_ ?_
    rotate_left
    ·go_simp
     rfl
    refine hK.out _ _ ⟨((cell_far (p := ⟨gb196, _, none⟩) NB195_196.out _).trans (((cell_far (p := ⟨gb196, _, none⟩) NB195_196.out _).trans (((cell_far (p := ⟨gb196, _, none⟩) NB195_196.out _).trans (hHeld.1)))))), ((cell_far (p := ⟨gb196, _, none⟩) NB195_196.out _).trans (((cell_far (p := ⟨gb196, _, none⟩) NB195_196.out _).trans (((cell_far (p := ⟨gb196, _, none⟩) NB195_196.out _).trans (hHeld.2.1)))))), ((cell_far (p := ⟨gb196, _, none⟩) NB195_196.out _).trans (((cell_far (p := ⟨gb196, _, none⟩) NB195_196.out _).trans (((cell_far (p := ⟨gb196, _, none⟩) NB195_196.out _).trans (hHeld.2.2))))))⟩ (fun hHeld => ?_)
    clear hK K
    refine pure_ (i := 8) (N := some 3) (v := ?_) (a' := ?_) #[true, true, true, true, true, true, true, true, true] rfl rfl (any_of HT_.out (by kernel_rfl)) (fun _ _ _ h => h) (Or.inl ⟨by rfl, ?_⟩) ?_ ?_
    rotate_left
    ·intro w'
     go_simp
     with_reducible rfl
    rotate_left
    ·simp only [Act.put, List.setIfInBounds_toArray, List.set_cons_zero, List.set_cons_succ, i64_w, i32_w]
     rfl
    refine done_ (done_of HT_.out (by kernel_rfl)) ?_
    try go_wp2
    refine bodyPost_ret (results_ct rfl _ _ gb196 30 #[.int .i64 t206, .slice Ao58 t207.length co58, .bool false] (0, 0) _ rfl (by refine zM ?_; refine blk_put (cs := #[.int .i64 t206, .slice Ao58 t207.length co58, .bool false]) ?_ 2 _ rfl; refine zM ?_; refine blk_put (cs := #[.int .i64 t206, .slice none 0 0, .bool false]) ?_ 1 _ rfl; refine zM ?_; refine blk_put (cs := #[.int .i64 0, .slice none 0 0, .bool false]) ?_ 0 _ rfl; refine zM ?_; exact BK196.out) Try.underlying30 rfl (by kernel_rfl)) rfl ?_
    exact ⟨_, by first | rfl | (simp [errW_none, errW_some] <;> rfl) | (simp [*, errW_none, errW_some] <;> rfl), by (with_reducible repeat (first | apply Kd.R_alloc | apply Kd.R_drewN | apply Kd.R_drew)); exact Kd.R_mono (Kd.R_far (p := ⟨gb196, 2, none⟩) (Kd.R_far (p := ⟨gb196, 1, none⟩) (Kd.R_far (p := ⟨gb196, 0, none⟩) (Kd.R_types HO209.out BK196.out (by decide)) (fun _ hk => hk.2) (.int .i64 t206)) (fun _ hk => hk.2) (.slice Ao58 t207.length co58)) (fun _ hk => hk.2) (.bool false)) (fun _ hk => trivial), zo HB⟩
 ·rw [if_neg c3] at H
  have c3b0 : (t197 == 0) = false := beq_eq_false_iff_ne.mpr c3
  have c3b1 : (t197 != 0) = true := bne_iff_ne.mpr c3
  simp only [Option.some.injEq, Prod.mk.injEq] at H
  obtain ⟨rfl, rfl, rfl, rfl⟩ := H
  go_enter Try.func15, Try.ntmps15
  go_wp2_with (first | ((with_reducible refine gate_dst (N := 1) rfl ?_); refine box_event ?hg (N := 1) ?hd (cs := #[.int .i64 a0_0, .slice A0_1 l0_1.length c0_1, .bool a0_2]) (t := 30) ?hr ?_; (case hd => rfl); (case hg => rfl); (case hr => first | (go_simp; done) | (go_simp; rfl)); intro gb195 hg w62 hbox hb; have BK195 := zK (hbox); have GW195 := zK ((by rw [hg]; exact (below_size (zo HB)) : w.heap.size ≤ gb195)); have GE195 := zK ((by rw [hg]; exact (below_size (zo HB)) : w.heap.size ≤ gb195)); replace HB := zK (below_step (zo HB) hb); clear hb hbox hg) | ((with_reducible refine gate_dst (N := 2) rfl ?_); refine box_event ?hg (N := 2) ?hd (cs := #[.int .i64 0, .slice none 0 0, .bool false]) (t := 30) ?hr ?_; (case hd => rfl); (case hg => rfl); (case hr => first | (go_simp; done) | (go_simp; rfl)); intro gb196 hg w63 hbox hb; have BK196 := zK (hbox); have GW196 := zK ((by rw [hg]; exact (below_size (zo HB)) : w.heap.size ≤ gb196)); have GE196 := zK ((by rw [hg]; exact (below_size (zo HB)) : w.heap.size ≤ gb196)); replace HB := zK (below_step (zo HB) hb); have NB195_196 := zK ((by rw [hg]; exact Nat.ne_of_lt (blk_lt (g := gb195) (o := .cells #[.int .i64 a0_0, .slice A0_1 l0_1.length c0_1, .bool a0_2] 30 (0, 0)) (zb BK195)) : gb195 ≠ gb196)); have NB196_195 := zK ((by rw [hg]; exact Nat.ne_of_gt (blk_lt (g := gb195) (o := .cells #[.int .i64 a0_0, .slice A0_1 l0_1.length c0_1, .bool a0_2] 30 (0, 0)) (zb BK195)) : gb196 ≠ gb195)); replace BK195 := zK (blk_below (g := gb195) (o := .cells #[.int .i64 a0_0, .slice A0_1 l0_1.length c0_1, .bool a0_2] 30 (0, 0)) (zb BK195) hb); clear hb hbox hg; have hnb64 := NB195_196.out; have hnc64 := NB196_195.out; have hcz65_0 : w63.cell? ⟨gb195, 0, none⟩ = some (.int .i64 a0_0) := (blk_cell BK195.out 0).trans rfl; have hcz65_1 : w63.cell? ⟨gb195, 1, none⟩ = some (.slice A0_1 l0_1.length c0_1) := (blk_cell BK195.out 1).trans rfl; have hcz65_2 : w63.cell? ⟨gb195, 2, none⟩ = some (.bool a0_2) := (blk_cell BK195.out 2).trans rfl; have hfz65_0 := blk_frozen BK195.out 0; have hfz65_1 := blk_frozen BK195.out 1; have hfz65_2 := blk_frozen BK195.out 2) | ((with_reducible refine zC (f := 18) rfl ?_); refine goesL_ (some 7) rfl rfl Try.func18 (by kernel_rfl) rfl #[.agg #[.int .i64 a0_0, .slice A0_1 l0_1.length c0_1, .bool a0_2]] rfl (by (try simp only [List.map_toArray, List.map_cons, List.map_nil]); first | done | rfl | (simp only [List.length_drop, List.length_take]; rfl)) ?_; (with_reducible refine (ineq_Right.calls k a0_0 _ _ l0_1 a0_2 t197 _ ?side1 ?side2 A2.out).mono ?_); (case side1 => repeat (first | exact (Kd.C_below HR0_1.out HB.out) | (with_reducible refine cA ?_ _) | (with_reducible refine cN ?_ _) | (with_reducible refine cD ?_))); (case side2 => exact HC0_1.out); rintro e w66 ⟨rfl, hb⟩; refine ⟨_, rfl, ?_⟩; replace BK195 := zK (blk_below (g := gb195) (o := .cells #[.int .i64 a0_0, .slice A0_1 l0_1.length c0_1, .bool a0_2] 30 (0, 0)) (zb BK195) hb); replace BK196 := zK (blk_below (g := gb196) (o := .cells #[.int .i64 0, .slice none 0 0, .bool false] 30 (0, 0)) (zb BK196) hb); replace HB := zK (below_step (zo HB) hb); (try clear hb); (try clear hb2); (try clear hk); (try clear hi); have hcz67_0 : w66.cell? ⟨gb196, 0, none⟩ = some (.int .i64 0) := (blk_cell BK196.out 0).trans rfl; have hcz67_1 : w66.cell? ⟨gb196, 1, none⟩ = some (.slice none 0 0) := (blk_cell BK196.out 1).trans rfl; have hcz67_2 : w66.cell? ⟨gb196, 2, none⟩ = some (.bool false) := (blk_cell BK196.out 2).trans rfl; have hfz67_0 := blk_frozen BK196.out 0; have hfz67_1 := blk_frozen BK196.out 1; have hfz67_2 := blk_frozen BK196.out 2))
  refine bodyPost_ret (results_ct rfl _ _ gb196 30 #[.int .i64 0, .slice none 0 0, .bool false] (0, 0) _ rfl (by refine zM ?_; refine blk_put (cs := #[.int .i64 0, .slice none 0 0, .bool false]) ?_ 2 _ rfl; refine zM ?_; refine blk_put (cs := #[.int .i64 0, .slice none 0 0, .bool false]) ?_ 1 _ rfl; refine zM ?_; refine blk_put (cs := #[.int .i64 0, .slice none 0 0, .bool false]) ?_ 0 _ rfl; refine zM ?_; exact BK196.out) Try.underlying30 rfl (by kernel_rfl)) rfl ?_
  exact ⟨_, by first | rfl | (simp [errW_none, errW_some] <;> rfl) | (simp [*, errW_none, errW_some] <;> rfl), by first | exact Kd.R_nil _ _ _ _ _ | exact Kd.N_nil _ _ _ _ _ | exact Kd.V_nil _ _ _ _ _ | exact Kd.Q_nil _ _ _ _ _ | exact Kd.S_nil _ _ _ _ _, zo HB⟩

/-! ### ineq_plain: function 40 -/
def ineq_plain.f (k : Nat) (a0_0 : Int) (l0_1 : List (S47)) (a0_2 : Bool) : Option (Bool) := (ineq_Right.f k a0_0 l0_1 a0_2).bind fun t211 => (if t211 = 0 then (some ((l0_1.length : Int) == 0)) else (some false))
theorem ineq_plain.mono : ∀ a0 a1 a2 k, LeO (ineq_plain.f k a0 a1 a2) (ineq_plain.f (k + 1) a0 a1 a2) := by
 intro a0 a1 a2 k
 unfold ineq_plain.f
 repeat' first
   | (with_reducible exact ineq_Right.mono _ _ _ _)
   | (with_reducible exact LeO.refl _)
   | (with_reducible exact LeO.none _)
   | (with_reducible refine LeO.ite ?_ ?_)
   | (with_reducible refine LeO.bind ?_ (fun _ => ?_))
   | exact ineq_Right.mono _ _ _ _
   | exact LeO.none _
   | refine LeO.ite ?_ ?_
   | refine LeO.bind ?_ (fun _ => ?_)
set_option maxHeartbeats 8000000 in
set_option maxRecDepth 100000 in
theorem ineq_plain.calls (k : Nat) (a0_0 : Int) (A0_1 : Option Addr) (c0_1 : Nat) (l0_1 : List (S47)) (a0_2 : Bool) (r : Bool) (w : World) (hr0_1 : Kd.C k47 w A0_1 l0_1.length l0_1) (hc0_1 : l0_1.length ≤ c0_1) (h : ineq_plain.f k a0_0 l0_1 a0_2 = some r) :
  Calls Try.prog 40 #[.agg #[.int .i64 a0_0, .slice A0_1 l0_1.length c0_1, .bool a0_2]] w fun e w' => e = .returned (.bool r) ∧ Below w.heap.size w w' := by
 have hu30 := Try.underlying30
 have HR0_1 := zK hr0_1
 have HC0_1 := zK hc0_1
 clear hr0_1 hc0_1
 have HB := zK (Below.refl w.heap.size w)
 have H : ((ineq_Right.f k a0_0 l0_1 a0_2).bind fun t211 => (if t211 = 0 then (some ((l0_1.length : Int) == 0)) else (some false))) = some r := h
 clear h
 replace H := Option.bind_eq_some_iff.mp H
 obtain ⟨t211, A20, H⟩ := H
 replace H : (if t211 = 0 then (some ((l0_1.length : Int) == 0)) else (some false)) = some r := H
 have A2 := zK A20
 clear A20
 by_cases c3 : t211 = 0
 ·rw [if_pos c3] at H
  have c3b0 : (t211 == 0) = true := beq_iff_eq.mpr c3
  have c3b1 : (t211 != 0) = false := bne_eq_false_iff_eq.mpr c3
  clear c3
  obtain rfl := Option.some.inj H
  go_enter Try.func40, Try.ntmps40
  go_wp2_with (first | ((with_reducible refine gate_dst (N := 1) rfl ?_); (try (refine zG (by rfl) ?_; dsimp only)); refine box_event ?hg (N := 1) ?hd (cs := #[.int .i64 a0_0, .slice A0_1 l0_1.length c0_1, .bool a0_2]) (t := 30) ?hr ?_; (case hd => rfl); (case hg => rfl); (case hr => first | (go_simp; done) | (go_simp; rfl)); intro gb210 hg w4 hbox hb; have BK210 := zK (hbox); have GW210 := zK ((by rw [hg]; exact (below_size (zo HB)) : w.heap.size ≤ gb210)); have GE210 := zK ((by rw [hg]; exact (below_size (zo HB)) : w.heap.size ≤ gb210)); replace HB := zK (below_step (zo HB) hb); clear hb hbox hg; have hcz5_0 : w4.cell? ⟨gb210, 0, none⟩ = some (.int .i64 a0_0) := (blk_cell BK210.out 0).trans rfl; have hcz5_1 : w4.cell? ⟨gb210, 1, none⟩ = some (.slice A0_1 l0_1.length c0_1) := (blk_cell BK210.out 1).trans rfl; have hcz5_2 : w4.cell? ⟨gb210, 2, none⟩ = some (.bool a0_2) := (blk_cell BK210.out 2).trans rfl; have hfz5_0 := blk_frozen BK210.out 0; have hfz5_1 := blk_frozen BK210.out 1; have hfz5_2 := blk_frozen BK210.out 2) | ((with_reducible refine zC (f := 18) rfl ?_); refine goesL_ (some 4) rfl rfl Try.func18 (by kernel_rfl) rfl #[.agg #[.int .i64 a0_0, .slice A0_1 l0_1.length c0_1, .bool a0_2]] rfl (by (try simp only [List.map_toArray, List.map_cons, List.map_nil]); first | done | rfl | (simp only [List.length_drop, List.length_take]; rfl)) ?_; (with_reducible refine (ineq_Right.calls k a0_0 _ _ l0_1 a0_2 t211 _ ?side1 ?side2 A2.out).mono ?_); (case side1 => repeat (first | exact (Kd.C_below HR0_1.out HB.out) | (with_reducible refine cA ?_ _) | (with_reducible refine cN ?_ _) | (with_reducible refine cD ?_))); (case side2 => exact HC0_1.out); rintro e w6 ⟨rfl, hb⟩; refine ⟨_, rfl, ?_⟩; replace BK210 := zK (blk_below (g := gb210) (o := .cells #[.int .i64 a0_0, .slice A0_1 l0_1.length c0_1, .bool a0_2] 30 (0, 0)) (zb BK210) hb); replace HB := zK (below_step (zo HB) hb); (try clear hb); (try clear hb2); (try clear hk); (try clear hi); have hcz7_0 : w6.cell? ⟨gb210, 0, none⟩ = some (.int .i64 a0_0) := (blk_cell BK210.out 0).trans rfl; have hcz7_1 : w6.cell? ⟨gb210, 1, none⟩ = some (.slice A0_1 l0_1.length c0_1) := (blk_cell BK210.out 1).trans rfl; have hcz7_2 : w6.cell? ⟨gb210, 2, none⟩ = some (.bool a0_2) := (blk_cell BK210.out 2).trans rfl; have hfz7_0 := blk_frozen BK210.out 0; have hfz7_1 := blk_frozen BK210.out 1; have hfz7_2 := blk_frozen BK210.out 2))
  go_ret
  exact ⟨by first | rfl | (simp [errW_none, errW_some] <;> rfl) | (simp [*, errW_none, errW_some] <;> rfl), zo HB⟩
 ·rw [if_neg c3] at H
  have c3b0 : (t211 == 0) = false := beq_eq_false_iff_ne.mpr c3
  have c3b1 : (t211 != 0) = true := bne_iff_ne.mpr c3
  obtain rfl := Option.some.inj H
  go_enter Try.func40, Try.ntmps40
  go_wp2_with (first | ((with_reducible refine gate_dst (N := 1) rfl ?_); (try (refine zG (by rfl) ?_; dsimp only)); refine box_event ?hg (N := 1) ?hd (cs := #[.int .i64 a0_0, .slice A0_1 l0_1.length c0_1, .bool a0_2]) (t := 30) ?hr ?_; (case hd => rfl); (case hg => rfl); (case hr => first | (go_simp; done) | (go_simp; rfl)); intro gb210 hg w8 hbox hb; have BK210 := zK (hbox); have GW210 := zK ((by rw [hg]; exact (below_size (zo HB)) : w.heap.size ≤ gb210)); have GE210 := zK ((by rw [hg]; exact (below_size (zo HB)) : w.heap.size ≤ gb210)); replace HB := zK (below_step (zo HB) hb); clear hb hbox hg; have hcz9_0 : w8.cell? ⟨gb210, 0, none⟩ = some (.int .i64 a0_0) := (blk_cell BK210.out 0).trans rfl; have hcz9_1 : w8.cell? ⟨gb210, 1, none⟩ = some (.slice A0_1 l0_1.length c0_1) := (blk_cell BK210.out 1).trans rfl; have hcz9_2 : w8.cell? ⟨gb210, 2, none⟩ = some (.bool a0_2) := (blk_cell BK210.out 2).trans rfl; have hfz9_0 := blk_frozen BK210.out 0; have hfz9_1 := blk_frozen BK210.out 1; have hfz9_2 := blk_frozen BK210.out 2) | ((with_reducible refine zC (f := 18) rfl ?_); refine goesL_ (some 4) rfl rfl Try.func18 (by kernel_rfl) rfl #[.agg #[.int .i64 a0_0, .slice A0_1 l0_1.length c0_1, .bool a0_2]] rfl (by (try simp only [List.map_toArray, List.map_cons, List.map_nil]); first | done | rfl | (simp only [List.length_drop, List.length_take]; rfl)) ?_; (with_reducible refine (ineq_Right.calls k a0_0 _ _ l0_1 a0_2 t211 _ ?side1 ?side2 A2.out).mono ?_); (case side1 => repeat (first | exact (Kd.C_below HR0_1.out HB.out) | (with_reducible refine cA ?_ _) | (with_reducible refine cN ?_ _) | (with_reducible refine cD ?_))); (case side2 => exact HC0_1.out); rintro e w10 ⟨rfl, hb⟩; refine ⟨_, rfl, ?_⟩; replace BK210 := zK (blk_below (g := gb210) (o := .cells #[.int .i64 a0_0, .slice A0_1 l0_1.length c0_1, .bool a0_2] 30 (0, 0)) (zb BK210) hb); replace HB := zK (below_step (zo HB) hb); (try clear hb); (try clear hb2); (try clear hk); (try clear hi)))
  go_ret
  exact ⟨by first | rfl | (simp [errW_none, errW_some] <;> rfl) | (simp [*, errW_none, errW_some] <;> rfl), zo HB⟩

/-! ### ineq_Absurd: function 19 -/
def ineq_Absurd.f (k : Nat) (a0_0 : Int) (l0_1 : List (S47)) (a0_2 : Bool) : Option (Bool) := (ineq_plain.f k a0_0 l0_1 a0_2).bind fun t213 => (if t213 = true then (if a0_0 > 0 then (some true) else (if a0_2 = true then (some (a0_0 != 0)) else (some false))) else (some false))
theorem ineq_Absurd.mono : ∀ a0 a1 a2 k, LeO (ineq_Absurd.f k a0 a1 a2) (ineq_Absurd.f (k + 1) a0 a1 a2) := by
 intro a0 a1 a2 k
 unfold ineq_Absurd.f
 repeat' first
   | (with_reducible exact ineq_plain.mono _ _ _ _)
   | (with_reducible exact LeO.refl _)
   | (with_reducible exact LeO.none _)
   | (with_reducible refine LeO.ite ?_ ?_)
   | (with_reducible refine LeO.bind ?_ (fun _ => ?_))
   | exact ineq_plain.mono _ _ _ _
   | exact LeO.none _
   | refine LeO.ite ?_ ?_
   | refine LeO.bind ?_ (fun _ => ?_)
set_option maxHeartbeats 8000000 in
set_option maxRecDepth 100000 in
theorem ineq_Absurd.calls (k : Nat) (a0_0 : Int) (A0_1 : Option Addr) (c0_1 : Nat) (l0_1 : List (S47)) (a0_2 : Bool) (r : Bool) (w : World) (hr0_1 : Kd.C k47 w A0_1 l0_1.length l0_1) (hc0_1 : l0_1.length ≤ c0_1) (h : ineq_Absurd.f k a0_0 l0_1 a0_2 = some r) :
  Calls Try.prog 19 #[.agg #[.int .i64 a0_0, .slice A0_1 l0_1.length c0_1, .bool a0_2]] w fun e w' => e = .returned (.bool r) ∧ Below w.heap.size w w' := by
 have hu30 := Try.underlying30
 have HR0_1 := zK hr0_1
 have HC0_1 := zK hc0_1
 clear hr0_1 hc0_1
 have HB := zK (Below.refl w.heap.size w)
 have H : ((ineq_plain.f k a0_0 l0_1 a0_2).bind fun t213 => (if t213 = true then (if a0_0 > 0 then (some true) else (if a0_2 = true then (some (a0_0 != 0)) else (some false))) else (some false))) = some r := h
 clear h
 replace H := Option.bind_eq_some_iff.mp H
 obtain ⟨t213, A20, H⟩ := H
 replace H : (if t213 = true then (if a0_0 > 0 then (some true) else (if a0_2 = true then (some (a0_0 != 0)) else (some false))) else (some false)) = some r := H
 have A2 := zK A20
 clear A20
 by_cases c3 : t213 = true
 ·subst c3
  have H1 : (if a0_0 > 0 then (some true) else (if a0_2 = true then (some (a0_0 != 0)) else (some false))) = some r := by rw [if_pos rfl] at H; exact H
  clear H
  have H := H1
  clear H1
  by_cases c4 : a0_0 > 0
  ·rw [if_pos c4] at H
   have c4b0 : decide (0 < a0_0) = true := decide_eq_true c4
   clear c4
   obtain rfl := Option.some.inj H
   go_enter Try.func19, Try.ntmps19
   go_wp2_with (first | ((with_reducible refine gate_dst (N := 1) rfl ?_); refine box_event ?hg (N := 1) ?hd (cs := #[.int .i64 a0_0, .slice A0_1 l0_1.length c0_1, .bool a0_2]) (t := 30) ?hr ?_; (case hd => rfl); (case hg => rfl); (case hr => first | (go_simp; done) | (go_simp; rfl)); intro gb212 hg w5 hbox hb; have BK212 := zK (hbox); have GW212 := zK ((by rw [hg]; exact (below_size (zo HB)) : w.heap.size ≤ gb212)); have GE212 := zK ((by rw [hg]; exact (below_size (zo HB)) : w.heap.size ≤ gb212)); replace HB := zK (below_step (zo HB) hb); clear hb hbox hg; have hcz6_0 : w5.cell? ⟨gb212, 0, none⟩ = some (.int .i64 a0_0) := (blk_cell BK212.out 0).trans rfl; have hcz6_1 : w5.cell? ⟨gb212, 1, none⟩ = some (.slice A0_1 l0_1.length c0_1) := (blk_cell BK212.out 1).trans rfl; have hcz6_2 : w5.cell? ⟨gb212, 2, none⟩ = some (.bool a0_2) := (blk_cell BK212.out 2).trans rfl; have hfz6_0 := blk_frozen BK212.out 0; have hfz6_1 := blk_frozen BK212.out 1; have hfz6_2 := blk_frozen BK212.out 2) | ((with_reducible refine zC (f := 40) rfl ?_); refine goesL_ (some 4) rfl rfl Try.func40 (by kernel_rfl) rfl #[.agg #[.int .i64 a0_0, .slice A0_1 l0_1.length c0_1, .bool a0_2]] rfl (by (try simp only [List.map_toArray, List.map_cons, List.map_nil]); first | done | rfl | (simp only [List.length_drop, List.length_take]; rfl)) ?_; (with_reducible refine (ineq_plain.calls k a0_0 _ _ l0_1 a0_2 true _ ?side1 ?side2 A2.out).mono ?_); (case side1 => repeat (first | exact (Kd.C_below HR0_1.out HB.out) | (with_reducible refine cA ?_ _) | (with_reducible refine cN ?_ _) | (with_reducible refine cD ?_))); (case side2 => exact HC0_1.out); rintro e w7 ⟨rfl, hb⟩; refine ⟨_, rfl, ?_⟩; replace BK212 := zK (blk_below (g := gb212) (o := .cells #[.int .i64 a0_0, .slice A0_1 l0_1.length c0_1, .bool a0_2] 30 (0, 0)) (zb BK212) hb); replace HB := zK (below_step (zo HB) hb); (try clear hb); (try clear hb2); (try clear hk); (try clear hi); have hcz8_0 : w7.cell? ⟨gb212, 0, none⟩ = some (.int .i64 a0_0) := (blk_cell BK212.out 0).trans rfl; have hcz8_1 : w7.cell? ⟨gb212, 1, none⟩ = some (.slice A0_1 l0_1.length c0_1) := (blk_cell BK212.out 1).trans rfl; have hcz8_2 : w7.cell? ⟨gb212, 2, none⟩ = some (.bool a0_2) := (blk_cell BK212.out 2).trans rfl; have hfz8_0 := blk_frozen BK212.out 0; have hfz8_1 := blk_frozen BK212.out 1; have hfz8_2 := blk_frozen BK212.out 2))
   go_ret
   exact ⟨by first | rfl | (simp [errW_none, errW_some] <;> rfl) | (simp [*, errW_none, errW_some] <;> rfl), zo HB⟩
  ·rw [if_neg c4] at H
   have c4b0 : decide (0 < a0_0) = false := decide_eq_false c4
   clear c4
   by_cases c9 : a0_2 = true
   ·subst c9
    have H1 : (some (a0_0 != 0)) = some r := by rw [if_pos rfl] at H; exact H
    clear H
    have H := H1
    clear H1
    obtain rfl := Option.some.inj H
    go_enter Try.func19, Try.ntmps19
    go_wp2_with (first | ((with_reducible refine gate_dst (N := 1) rfl ?_); refine box_event ?hg (N := 1) ?hd (cs := #[.int .i64 a0_0, .slice A0_1 l0_1.length c0_1, .bool true]) (t := 30) ?hr ?_; (case hd => rfl); (case hg => rfl); (case hr => first | (go_simp; done) | (go_simp; rfl)); intro gb212 hg w10 hbox hb; have BK212 := zK (hbox); have GW212 := zK ((by rw [hg]; exact (below_size (zo HB)) : w.heap.size ≤ gb212)); have GE212 := zK ((by rw [hg]; exact (below_size (zo HB)) : w.heap.size ≤ gb212)); replace HB := zK (below_step (zo HB) hb); clear hb hbox hg; have hcz11_0 : w10.cell? ⟨gb212, 0, none⟩ = some (.int .i64 a0_0) := (blk_cell BK212.out 0).trans rfl; have hcz11_1 : w10.cell? ⟨gb212, 1, none⟩ = some (.slice A0_1 l0_1.length c0_1) := (blk_cell BK212.out 1).trans rfl; have hcz11_2 : w10.cell? ⟨gb212, 2, none⟩ = some (.bool true) := (blk_cell BK212.out 2).trans rfl; have hfz11_0 := blk_frozen BK212.out 0; have hfz11_1 := blk_frozen BK212.out 1; have hfz11_2 := blk_frozen BK212.out 2) | ((with_reducible refine zC (f := 40) rfl ?_); refine goesL_ (some 4) rfl rfl Try.func40 (by kernel_rfl) rfl #[.agg #[.int .i64 a0_0, .slice A0_1 l0_1.length c0_1, .bool true]] rfl (by (try simp only [List.map_toArray, List.map_cons, List.map_nil]); first | done | rfl | (simp only [List.length_drop, List.length_take]; rfl)) ?_; (with_reducible refine (ineq_plain.calls k a0_0 _ _ l0_1 true true _ ?side1 ?side2 A2.out).mono ?_); (case side1 => repeat (first | exact (Kd.C_below HR0_1.out HB.out) | (with_reducible refine cA ?_ _) | (with_reducible refine cN ?_ _) | (with_reducible refine cD ?_))); (case side2 => exact HC0_1.out); rintro e w12 ⟨rfl, hb⟩; refine ⟨_, rfl, ?_⟩; replace BK212 := zK (blk_below (g := gb212) (o := .cells #[.int .i64 a0_0, .slice A0_1 l0_1.length c0_1, .bool true] 30 (0, 0)) (zb BK212) hb); replace HB := zK (below_step (zo HB) hb); (try clear hb); (try clear hb2); (try clear hk); (try clear hi); have hcz13_0 : w12.cell? ⟨gb212, 0, none⟩ = some (.int .i64 a0_0) := (blk_cell BK212.out 0).trans rfl; have hcz13_1 : w12.cell? ⟨gb212, 1, none⟩ = some (.slice A0_1 l0_1.length c0_1) := (blk_cell BK212.out 1).trans rfl; have hcz13_2 : w12.cell? ⟨gb212, 2, none⟩ = some (.bool true) := (blk_cell BK212.out 2).trans rfl; have hfz13_0 := blk_frozen BK212.out 0; have hfz13_1 := blk_frozen BK212.out 1; have hfz13_2 := blk_frozen BK212.out 2))
    go_ret
    exact ⟨by first | rfl | (simp [errW_none, errW_some] <;> rfl) | (simp [*, errW_none, errW_some] <;> rfl), zo HB⟩
   ·replace c9 := Bool.eq_false_iff.mpr c9
    subst c9
    have H1 : (some false) = some r := by rw [if_neg (show ¬ (false = true) by decide)] at H; exact H
    clear H
    have H := H1
    clear H1
    obtain rfl := Option.some.inj H
    go_enter Try.func19, Try.ntmps19
    go_wp2_with (first | ((with_reducible refine gate_dst (N := 1) rfl ?_); refine box_event ?hg (N := 1) ?hd (cs := #[.int .i64 a0_0, .slice A0_1 l0_1.length c0_1, .bool false]) (t := 30) ?hr ?_; (case hd => rfl); (case hg => rfl); (case hr => first | (go_simp; done) | (go_simp; rfl)); intro gb212 hg w14 hbox hb; have BK212 := zK (hbox); have GW212 := zK ((by rw [hg]; exact (below_size (zo HB)) : w.heap.size ≤ gb212)); have GE212 := zK ((by rw [hg]; exact (below_size (zo HB)) : w.heap.size ≤ gb212)); replace HB := zK (below_step (zo HB) hb); clear hb hbox hg; have hcz15_0 : w14.cell? ⟨gb212, 0, none⟩ = some (.int .i64 a0_0) := (blk_cell BK212.out 0).trans rfl; have hcz15_1 : w14.cell? ⟨gb212, 1, none⟩ = some (.slice A0_1 l0_1.length c0_1) := (blk_cell BK212.out 1).trans rfl; have hcz15_2 : w14.cell? ⟨gb212, 2, none⟩ = some (.bool false) := (blk_cell BK212.out 2).trans rfl; have hfz15_0 := blk_frozen BK212.out 0; have hfz15_1 := blk_frozen BK212.out 1; have hfz15_2 := blk_frozen BK212.out 2) | ((with_reducible refine zC (f := 40) rfl ?_); refine goesL_ (some 4) rfl rfl Try.func40 (by kernel_rfl) rfl #[.agg #[.int .i64 a0_0, .slice A0_1 l0_1.length c0_1, .bool false]] rfl (by (try simp only [List.map_toArray, List.map_cons, List.map_nil]); first | done | rfl | (simp only [List.length_drop, List.length_take]; rfl)) ?_; (with_reducible refine (ineq_plain.calls k a0_0 _ _ l0_1 false true _ ?side1 ?side2 A2.out).mono ?_); (case side1 => repeat (first | exact (Kd.C_below HR0_1.out HB.out) | (with_reducible refine cA ?_ _) | (with_reducible refine cN ?_ _) | (with_reducible refine cD ?_))); (case side2 => exact HC0_1.out); rintro e w16 ⟨rfl, hb⟩; refine ⟨_, rfl, ?_⟩; replace BK212 := zK (blk_below (g := gb212) (o := .cells #[.int .i64 a0_0, .slice A0_1 l0_1.length c0_1, .bool false] 30 (0, 0)) (zb BK212) hb); replace HB := zK (below_step (zo HB) hb); (try clear hb); (try clear hb2); (try clear hk); (try clear hi); have hcz17_0 : w16.cell? ⟨gb212, 0, none⟩ = some (.int .i64 a0_0) := (blk_cell BK212.out 0).trans rfl; have hcz17_1 : w16.cell? ⟨gb212, 1, none⟩ = some (.slice A0_1 l0_1.length c0_1) := (blk_cell BK212.out 1).trans rfl; have hcz17_2 : w16.cell? ⟨gb212, 2, none⟩ = some (.bool false) := (blk_cell BK212.out 2).trans rfl; have hfz17_0 := blk_frozen BK212.out 0; have hfz17_1 := blk_frozen BK212.out 1; have hfz17_2 := blk_frozen BK212.out 2))
    go_ret
    exact ⟨by first | rfl | (simp [errW_none, errW_some] <;> rfl) | (simp [*, errW_none, errW_some] <;> rfl), zo HB⟩
 ·replace c3 := Bool.eq_false_iff.mpr c3
  subst c3
  have H1 : (some false) = some r := by rw [if_neg (show ¬ (false = true) by decide)] at H; exact H
  clear H
  have H := H1
  clear H1
  obtain rfl := Option.some.inj H
  go_enter Try.func19, Try.ntmps19
  go_wp2_with (first | ((with_reducible refine gate_dst (N := 1) rfl ?_); refine box_event ?hg (N := 1) ?hd (cs := #[.int .i64 a0_0, .slice A0_1 l0_1.length c0_1, .bool a0_2]) (t := 30) ?hr ?_; (case hd => rfl); (case hg => rfl); (case hr => first | (go_simp; done) | (go_simp; rfl)); intro gb212 hg w18 hbox hb; have BK212 := zK (hbox); have GW212 := zK ((by rw [hg]; exact (below_size (zo HB)) : w.heap.size ≤ gb212)); have GE212 := zK ((by rw [hg]; exact (below_size (zo HB)) : w.heap.size ≤ gb212)); replace HB := zK (below_step (zo HB) hb); clear hb hbox hg; have hcz19_0 : w18.cell? ⟨gb212, 0, none⟩ = some (.int .i64 a0_0) := (blk_cell BK212.out 0).trans rfl; have hcz19_1 : w18.cell? ⟨gb212, 1, none⟩ = some (.slice A0_1 l0_1.length c0_1) := (blk_cell BK212.out 1).trans rfl; have hcz19_2 : w18.cell? ⟨gb212, 2, none⟩ = some (.bool a0_2) := (blk_cell BK212.out 2).trans rfl; have hfz19_0 := blk_frozen BK212.out 0; have hfz19_1 := blk_frozen BK212.out 1; have hfz19_2 := blk_frozen BK212.out 2) | ((with_reducible refine zC (f := 40) rfl ?_); refine goesL_ (some 4) rfl rfl Try.func40 (by kernel_rfl) rfl #[.agg #[.int .i64 a0_0, .slice A0_1 l0_1.length c0_1, .bool a0_2]] rfl (by (try simp only [List.map_toArray, List.map_cons, List.map_nil]); first | done | rfl | (simp only [List.length_drop, List.length_take]; rfl)) ?_; (with_reducible refine (ineq_plain.calls k a0_0 _ _ l0_1 a0_2 false _ ?side1 ?side2 A2.out).mono ?_); (case side1 => repeat (first | exact (Kd.C_below HR0_1.out HB.out) | (with_reducible refine cA ?_ _) | (with_reducible refine cN ?_ _) | (with_reducible refine cD ?_))); (case side2 => exact HC0_1.out); rintro e w20 ⟨rfl, hb⟩; refine ⟨_, rfl, ?_⟩; replace BK212 := zK (blk_below (g := gb212) (o := .cells #[.int .i64 a0_0, .slice A0_1 l0_1.length c0_1, .bool a0_2] 30 (0, 0)) (zb BK212) hb); replace HB := zK (below_step (zo HB) hb); (try clear hb); (try clear hb2); (try clear hk); (try clear hi)))
  go_ret
  exact ⟨by first | rfl | (simp [errW_none, errW_some] <;> rfl) | (simp [*, errW_none, errW_some] <;> rfl), zo HB⟩

/-! ### sequiturlaw28_goes: function 10 -/
def sequiturlaw28_goes.f (k : Nat)  : Option (Bool) := (ineq_Sum.f k (([(⟨(⟨(-3), (([(⟨0, 1⟩ : S47)] : List (S47)))⟩ : S28), false⟩ : S30), (⟨(⟨4, (([(⟨0, (-1)⟩ : S47)] : List (S47)))⟩ : S28), false⟩ : S30)] : List (S30))) (([1, 1] : List Int)) 1).bind fun bt226 => ((ineq_Tight.f k (-1) (([(⟨0, 2⟩ : S47)] : List (S47))) true).bind fun bt236 => (if bt226.2.2.2 = 0 then (if (bt226.2.1.length : Int) = 0 then (if bt226.1 = 1 then (if bt226.2.2.1 = true then (none) else ((ineq_Absurd.f k bt226.1 bt226.2.1 bt226.2.2.1).bind fun t243 => (if t243 = true then (if bt236.2.2.2 = 0 then (if (bt236.2.1.length : Int) = 0 then (if bt236.1 = 1 then (some bt236.2.2.1) else (none)) else (none)) else (none)) else (none)))) else (none)) else (none)) else (none)))
theorem sequiturlaw28_goes.mono : ∀ k, LeO (sequiturlaw28_goes.f k ) (sequiturlaw28_goes.f (k + 1) ) := by
 intro  k
 unfold sequiturlaw28_goes.f
 repeat' first
   | (with_reducible exact ineq_Absurd.mono _ _ _ _)
   | (with_reducible exact ineq_Sum.mono _ _ _ _)
   | (with_reducible exact ineq_Tight.mono _ _ _ _)
   | (with_reducible exact LeO.refl _)
   | (with_reducible exact LeO.none _)
   | (with_reducible refine LeO.ite ?_ ?_)
   | (with_reducible refine LeO.bind ?_ (fun _ => ?_))
   | exact ineq_Absurd.mono _ _ _ _
   | exact ineq_Sum.mono _ _ _ _
   | exact ineq_Tight.mono _ _ _ _
   | exact LeO.none _
   | refine LeO.ite ?_ ?_
   | refine LeO.bind ?_ (fun _ => ?_)
set_option maxHeartbeats 8000000 in
set_option maxRecDepth 100000 in
theorem sequiturlaw28_goes.calls (k : Nat)  (r : Bool) (w : World) (h : sequiturlaw28_goes.f k  = some r) :
  Calls Try.prog 10 #[] w fun e w' => e = .returned (.bool r) ∧ Below w.heap.size w w' := by
 have hu47 := Try.underlying47
 have hu28 := Try.underlying28
 have hu30 := Try.underlying30
 have HB := zK (Below.refl w.heap.size w)
 have H : ((ineq_Sum.f k (([(⟨(⟨(-3), (([(⟨0, 1⟩ : S47)] : List (S47)))⟩ : S28), false⟩ : S30), (⟨(⟨4, (([(⟨0, (-1)⟩ : S47)] : List (S47)))⟩ : S28), false⟩ : S30)] : List (S30))) (([1, 1] : List Int)) 1).bind fun bt226 => ((ineq_Tight.f k (-1) (([(⟨0, 2⟩ : S47)] : List (S47))) true).bind fun bt236 => (if bt226.2.2.2 = 0 then (if (bt226.2.1.length : Int) = 0 then (if bt226.1 = 1 then (if bt226.2.2.1 = true then (none) else ((ineq_Absurd.f k bt226.1 bt226.2.1 bt226.2.2.1).bind fun t243 => (if t243 = true then (if bt236.2.2.2 = 0 then (if (bt236.2.1.length : Int) = 0 then (if bt236.1 = 1 then (some bt236.2.2.1) else (none)) else (none)) else (none)) else (none)))) else (none)) else (none)) else (none)))) = some r := h
 clear h
 obtain ⟨y214, hy214⟩ : ∃ y_ : List (S47), y_ = (([(⟨0, 1⟩ : S47)] : List (S47))) := ⟨_, rfl⟩
 replace H : ((ineq_Sum.f k (([(⟨(⟨(-3), y214⟩ : S28), false⟩ : S30), (⟨(⟨4, (([(⟨0, (-1)⟩ : S47)] : List (S47)))⟩ : S28), false⟩ : S30)] : List (S30))) (([1, 1] : List Int)) 1).bind fun bt226 => ((ineq_Tight.f k (-1) (([(⟨0, 2⟩ : S47)] : List (S47))) true).bind fun bt236 => (if bt226.2.2.2 = 0 then (if (bt226.2.1.length : Int) = 0 then (if bt226.1 = 1 then (if bt226.2.2.1 = true then (none) else ((ineq_Absurd.f k bt226.1 bt226.2.1 bt226.2.2.1).bind fun t243 => (if t243 = true then (if bt236.2.2.2 = 0 then (if (bt236.2.1.length : Int) = 0 then (if bt236.1 = 1 then (some bt236.2.2.1) else (none)) else (none)) else (none)) else (none)))) else (none)) else (none)) else (none)))) = some r := by first | (rw [hy214]; with_reducible exact H) | (have H2_ := (Option.bind_some _ _).symm.trans H; rw [hy214]; with_reducible exact H2_) | (have H2_ := (Option.bind_some _ _).symm.trans H; with_reducible exact H2_) | with_reducible exact H | (rw [hy214]; exact H) | exact H
 have Ny214 := zK hy214
 clear hy214
 obtain ⟨y217, hy217⟩ : ∃ y_ : List (S47), y_ = (([(⟨0, (-1)⟩ : S47)] : List (S47))) := ⟨_, rfl⟩
 replace H : ((ineq_Sum.f k (([(⟨(⟨(-3), y214⟩ : S28), false⟩ : S30), (⟨(⟨4, y217⟩ : S28), false⟩ : S30)] : List (S30))) (([1, 1] : List Int)) 1).bind fun bt226 => ((ineq_Tight.f k (-1) (([(⟨0, 2⟩ : S47)] : List (S47))) true).bind fun bt236 => (if bt226.2.2.2 = 0 then (if (bt226.2.1.length : Int) = 0 then (if bt226.1 = 1 then (if bt226.2.2.1 = true then (none) else ((ineq_Absurd.f k bt226.1 bt226.2.1 bt226.2.2.1).bind fun t243 => (if t243 = true then (if bt236.2.2.2 = 0 then (if (bt236.2.1.length : Int) = 0 then (if bt236.1 = 1 then (some bt236.2.2.1) else (none)) else (none)) else (none)) else (none)))) else (none)) else (none)) else (none)))) = some r := by first | (rw [hy217]; with_reducible exact H) | (have H2_ := (Option.bind_some _ _).symm.trans H; rw [hy217]; with_reducible exact H2_) | (have H2_ := (Option.bind_some _ _).symm.trans H; with_reducible exact H2_) | with_reducible exact H | (rw [hy217]; exact H) | exact H
 have Ny217 := zK hy217
 clear hy217
 obtain ⟨y220, hy220⟩ : ∃ y_ : List (S30), y_ = (([(⟨(⟨(-3), y214⟩ : S28), false⟩ : S30), (⟨(⟨4, y217⟩ : S28), false⟩ : S30)] : List (S30))) := ⟨_, rfl⟩
 replace H : ((ineq_Sum.f k y220 (([1, 1] : List Int)) 1).bind fun bt226 => ((ineq_Tight.f k (-1) (([(⟨0, 2⟩ : S47)] : List (S47))) true).bind fun bt236 => (if bt226.2.2.2 = 0 then (if (bt226.2.1.length : Int) = 0 then (if bt226.1 = 1 then (if bt226.2.2.1 = true then (none) else ((ineq_Absurd.f k bt226.1 bt226.2.1 bt226.2.2.1).bind fun t243 => (if t243 = true then (if bt236.2.2.2 = 0 then (if (bt236.2.1.length : Int) = 0 then (if bt236.1 = 1 then (some bt236.2.2.1) else (none)) else (none)) else (none)) else (none)))) else (none)) else (none)) else (none)))) = some r := by first | (rw [hy220]; with_reducible exact H) | (have H2_ := (Option.bind_some _ _).symm.trans H; rw [hy220]; with_reducible exact H2_) | (have H2_ := (Option.bind_some _ _).symm.trans H; with_reducible exact H2_) | with_reducible exact H | (rw [hy220]; exact H) | exact H
 have Ny220 := zK hy220
 clear hy220
 obtain ⟨y223, hy223⟩ : ∃ y_ : List Int, y_ = (([1, 1] : List Int)) := ⟨_, rfl⟩
 replace H : ((ineq_Sum.f k y220 y223 1).bind fun bt226 => ((ineq_Tight.f k (-1) (([(⟨0, 2⟩ : S47)] : List (S47))) true).bind fun bt236 => (if bt226.2.2.2 = 0 then (if (bt226.2.1.length : Int) = 0 then (if bt226.1 = 1 then (if bt226.2.2.1 = true then (none) else ((ineq_Absurd.f k bt226.1 bt226.2.1 bt226.2.2.1).bind fun t243 => (if t243 = true then (if bt236.2.2.2 = 0 then (if (bt236.2.1.length : Int) = 0 then (if bt236.1 = 1 then (some bt236.2.2.1) else (none)) else (none)) else (none)) else (none)))) else (none)) else (none)) else (none)))) = some r := by first | (rw [hy223]; with_reducible exact H) | (have H2_ := (Option.bind_some _ _).symm.trans H; rw [hy223]; with_reducible exact H2_) | (have H2_ := (Option.bind_some _ _).symm.trans H; with_reducible exact H2_) | with_reducible exact H | (rw [hy223]; exact H) | exact H
 have Ny223 := zK hy223
 clear hy223
 replace H := Option.bind_eq_some_iff.mp H
 obtain ⟨⟨t226, t227, t230, t231⟩, A10, H⟩ := H
 replace H : ((ineq_Tight.f k (-1) (([(⟨0, 2⟩ : S47)] : List (S47))) true).bind fun bt236 => (if t231 = 0 then (if (t227.length : Int) = 0 then (if t226 = 1 then (if t230 = true then (none) else ((ineq_Absurd.f k t226 t227 t230).bind fun t243 => (if t243 = true then (if bt236.2.2.2 = 0 then (if (bt236.2.1.length : Int) = 0 then (if bt236.1 = 1 then (some bt236.2.2.1) else (none)) else (none)) else (none)) else (none)))) else (none)) else (none)) else (none))) = some r := H
 have A1 := zK A10
 clear A10
 obtain ⟨y233, hy233⟩ : ∃ y_ : List (S47), y_ = (([(⟨0, 2⟩ : S47)] : List (S47))) := ⟨_, rfl⟩
 replace H : ((ineq_Tight.f k (-1) y233 true).bind fun bt236 => (if t231 = 0 then (if (t227.length : Int) = 0 then (if t226 = 1 then (if t230 = true then (none) else ((ineq_Absurd.f k t226 t227 t230).bind fun t243 => (if t243 = true then (if bt236.2.2.2 = 0 then (if (bt236.2.1.length : Int) = 0 then (if bt236.1 = 1 then (some bt236.2.2.1) else (none)) else (none)) else (none)) else (none)))) else (none)) else (none)) else (none))) = some r := by first | (rw [hy233]; with_reducible exact H) | (have H2_ := (Option.bind_some _ _).symm.trans H; rw [hy233]; with_reducible exact H2_) | (have H2_ := (Option.bind_some _ _).symm.trans H; with_reducible exact H2_) | with_reducible exact H | (rw [hy233]; exact H) | exact H
 have Ny233 := zK hy233
 clear hy233
 replace H := Option.bind_eq_some_iff.mp H
 obtain ⟨⟨t236, t237, t240, t241⟩, A20, H⟩ := H
 replace H : (if t231 = 0 then (if (t227.length : Int) = 0 then (if t226 = 1 then (if t230 = true then (none) else ((ineq_Absurd.f k t226 t227 t230).bind fun t243 => (if t243 = true then (if t241 = 0 then (if (t237.length : Int) = 0 then (if t236 = 1 then (some t240) else (none)) else (none)) else (none)) else (none)))) else (none)) else (none)) else (none)) = some r := H
 have A2 := zK A20
 clear A20
 by_cases c3 : t231 = 0
 ·rw [if_pos c3] at H
  have c3b0 : (t231 == 0) = true := beq_iff_eq.mpr c3
  have c3b1 : (t231 != 0) = false := bne_eq_false_iff_eq.mpr c3
  clear c3
  by_cases c4 : (t227.length : Int) = 0
  ·rw [if_pos c4] at H
   have c4b0 : ((t227.length : Int) == 0) = true := beq_iff_eq.mpr c4
   have c4b1 : ((t227.length : Int) != 0) = false := bne_eq_false_iff_eq.mpr c4
   clear c4
   by_cases c5 : t226 = 1
   ·rw [if_pos c5] at H
    have c5b0 : (t226 == 1) = true := beq_iff_eq.mpr c5
    have c5b1 : (t226 != 1) = false := bne_eq_false_iff_eq.mpr c5
    clear c5
    by_cases c6 : t230 = true
    ·subst c6
     have H1 : (none) = some r := by rw [if_pos rfl] at H; exact H
     clear H
     have H := H1
     clear H1
     exact absurd H (by simp)
    ·replace c6 := Bool.eq_false_iff.mpr c6
     subst c6
     have H1 : ((ineq_Absurd.f k t226 t227 false).bind fun t243 => (if t243 = true then (if t241 = 0 then (if (t237.length : Int) = 0 then (if t236 = 1 then (some t240) else (none)) else (none)) else (none)) else (none))) = some r := by rw [if_neg (show ¬ (false = true) by decide)] at H; exact H
     clear H
     have H := H1
     clear H1
     replace H := Option.bind_eq_some_iff.mp H
     obtain ⟨t243, A70, H⟩ := H
     replace H : (if t243 = true then (if t241 = 0 then (if (t237.length : Int) = 0 then (if t236 = 1 then (some t240) else (none)) else (none)) else (none)) else (none)) = some r := H
     have A7 := zK A70
     clear A70
     by_cases c8 : t243 = true
     ·subst c8
      have H1 : (if t241 = 0 then (if (t237.length : Int) = 0 then (if t236 = 1 then (some t240) else (none)) else (none)) else (none)) = some r := by rw [if_pos rfl] at H; exact H
      clear H
      have H := H1
      clear H1
      by_cases c9 : t241 = 0
      ·rw [if_pos c9] at H
       have c9b0 : (t241 == 0) = true := beq_iff_eq.mpr c9
       have c9b1 : (t241 != 0) = false := bne_eq_false_iff_eq.mpr c9
       clear c9
       by_cases c10 : (t237.length : Int) = 0
       ·rw [if_pos c10] at H
        have c10b0 : ((t237.length : Int) == 0) = true := beq_iff_eq.mpr c10
        have c10b1 : ((t237.length : Int) != 0) = false := bne_eq_false_iff_eq.mpr c10
        clear c10
        by_cases c11 : t236 = 1
        ·rw [if_pos c11] at H
         have c11b0 : (t236 == 1) = true := beq_iff_eq.mpr c11
         have c11b1 : (t236 != 1) = false := bne_eq_false_iff_eq.mpr c11
         clear c11
         obtain rfl := Option.some.inj H
         go_enter Try.func10, Try.ntmps10
         go_wp2_with (first | ((with_reducible refine gate_dst (N := 7) rfl ?_); (try (refine zG (by rfl) ?_; dsimp only)); refine Kd.R_lit k47 _ 47 ?hg (N := 7) ?hd (xs := ([(⟨0, 1⟩ : S47)] : List (S47))) (inner := [.int .i64 0, .int .i64 1]) (ok := fun _ => True) (okp := fun _ => True) ?hr ?hp (fun _ hk => hk) trivial (Below.refl _ _) (Nat.le_refl _) (by simp) ?_; (case hd => rfl); (case hg => rfl); (case hr => first | (go_simp; done) | (go_simp; rfl)); (case hp => exact (Reps.c2 (show Kd.M k47 _ _ _ (⟨0, 1⟩ : S47) [.int .i64 0, .int .i64 1] from (k47_mkM _ _ _ (⟨0, 1⟩ : S47) )) (Reps.none _ _))); intro v215 w12 ho13 hb hg_ hnew_; clear hg_ hnew_; (first | rw [← Ny214.out] at ho13 | (simp only [Int.reduceToNat] at ho13; rw [← Ny214.out] at ho13)); have HO216 := zK (Kd.R_lower ho13 (below_size (zo HB))); replace HB := zK (below_step (zo HB) hb); clear hb ho13; obtain ⟨Ao14, co14, eo14⟩ := Kd.R_slice HO216.out; subst eo14) | ((with_reducible refine gate_dst (N := 11) rfl ?_); (try (refine zG (by rfl) ?_; dsimp only)); refine Kd.R_lit k47 _ 47 ?hg (N := 11) ?hd (xs := ([(⟨0, (-1)⟩ : S47)] : List (S47))) (inner := [.int .i64 0, .int .i64 (-1)]) (ok := fun _ => True) (okp := fun _ => True) ?hr ?hp (fun _ hk => hk) trivial (Below.refl _ _) (Nat.le_refl _) (by simp) ?_; (case hd => rfl); (case hg => rfl); (case hr => first | (go_simp; done) | (go_simp; rfl)); (case hp => exact (Reps.c2 (show Kd.M k47 _ _ _ (⟨0, (-1)⟩ : S47) [.int .i64 0, .int .i64 (-1)] from (k47_mkM _ _ _ (⟨0, (-1)⟩ : S47) )) (Reps.none _ _))); intro v218 w15 ho16 hb hg_ hnew_; clear hg_ hnew_; (first | rw [← Ny217.out] at ho16 | (simp only [Int.reduceToNat] at ho16; rw [← Ny217.out] at ho16)); have HO219 := zK (Kd.R_lower (Kd.R_new' ho16 (Kd.R_lt (zr HO216))) (below_size (zo HB))); replace HO216 := zK (Kd.R_elder' (zr HO216) (Kd.R_base ho16) hb); replace HB := zK (below_step (zo HB) hb); clear hb ho16; obtain ⟨Ao17, co17, eo17⟩ := Kd.R_slice HO219.out; subst eo17) | ((with_reducible refine gate_dst (N := 14) rfl ?_); (try (refine zG (by rfl) ?_; dsimp only)); refine Kd.N_lit k30 _ 30 ?hg (N' := 14) ?hd (xs := ([(⟨(⟨(-3), y214⟩ : S28), false⟩ : S30), (⟨(⟨4, y217⟩ : S28), false⟩ : S30)] : List (S30))) (inner := [.int .i64 (-3), .slice Ao14 y214.length co14, .bool false, .int .i64 4, .slice Ao17 y217.length co17, .bool false]) (ok := (fun _ => True)) (okp := (fun _ => True)) ?hr ?hp (fun _ hk => hk) ((show ∀ k_, w15.heap.size ≤ k_ → (fun _ => True) k_ from fun k_ hk => trivial) _ (Nat.le_refl _)) (Below.refl _ _) (Nat.le_refl _) (by simp) ?_; (case hd => rfl); (case hg => rfl); (case hr => first | (go_simp; done) | (go_simp; rfl)); (case hp => exact (Reps.c3 (show Kd.FK k30 _ _ (⟨(⟨(-3), y214⟩ : S28), false⟩ : S30) [.int .i64 (-3), .slice Ao14 y214.length co14, .bool false] from (k30_mkF _ _ (⟨(⟨(-3), y214⟩ : S28), false⟩ : S30) (Kd.R_reads' (Kd.R_mono (ok' := (fun _ => True)) (HO216.out) (fun k_ hk => trivial))).2.1 (Kd.R_F (Kd.R_mono (ok' := (fun _ => True)) (HO216.out) (fun k_ hk => trivial))))) (Reps.c3 (show Kd.FK k30 _ _ (⟨(⟨4, y217⟩ : S28), false⟩ : S30) [.int .i64 4, .slice Ao17 y217.length co17, .bool false] from (k30_mkF _ _ (⟨(⟨4, y217⟩ : S28), false⟩ : S30) (Kd.R_reads' (Kd.R_mono (ok' := (fun _ => True)) (HO219.out) (fun k_ hk => trivial))).2.1 (Kd.R_F (Kd.R_mono (ok' := (fun _ => True)) (HO219.out) (fun k_ hk => trivial))))) (Reps.none _ _)))); intro v221 w18 ho19 hb hg_ hnew_; clear hg_ hnew_; (first | rw [← Ny220.out] at ho19 | (simp only [Int.reduceToNat] at ho19; rw [← Ny220.out] at ho19)); have HO222 := zK (Kd.N_lower ho19 (below_size (zo HB))); replace HB := zK (below_step (zo HB) hb); clear HO216 HO219 hb ho19) | ((with_reducible refine gate_dst (N := 15) rfl ?_); (try (refine zG (by rfl) ?_; dsimp only)); refine Kd.R_lit (Kd.int .i64) _ 2 ?hg (N := 15) ?hd (xs := ([1, 1] : List Int)) (inner := [.int .i64 1, .int .i64 1]) (ok := fun _ => True) (okp := fun _ => True) ?hr ?hp (fun _ hk => hk) trivial (Below.refl _ _) (Nat.le_refl _) (by simp) ?_; (case hd => rfl); (case hg => rfl); (case hr => first | (go_simp; done) | (go_simp; rfl)); (case hp => exact (Reps.one (show Kd.M (Kd.int .i64) _ _ _ 1 [.int .i64 1] from rfl) (Reps.one (show Kd.M (Kd.int .i64) _ _ _ 1 [.int .i64 1] from rfl) (Reps.none _ _)))); intro v224 w20 ho21 hb hg_ hnew_; clear hg_ hnew_; (first | rw [← Ny223.out] at ho21 | (simp only [Int.reduceToNat] at ho21; rw [← Ny223.out] at ho21)); replace HO222 := zK (Kd.N_elder' (zn HO222) (Kd.R_base ho21) hb); have HO225 := zK (Kd.R_lower ho21 (below_size (zo HB))); replace HB := zK (below_step (zo HB) hb); clear hb ho21; obtain ⟨Ao22, co22, eo22⟩ := Kd.N_slice HO222.out; subst eo22; obtain ⟨Ao23, co23, eo23⟩ := Kd.R_slice HO225.out; subst eo23) | ((with_reducible refine zC (f := 11) rfl ?_); refine goesL_ (some 16) rfl rfl Try.func11 (by kernel_rfl) rfl #[.slice Ao22 y220.length co22, .slice Ao23 y223.length co23, .int .i64 1] rfl (by (try simp only [List.map_toArray, List.map_cons, List.map_nil]); first | done | rfl | (simp only [List.length_drop, List.length_take]; rfl)) ?_; (with_reducible refine (ineq_Sum.calls k (fun k_ => (True ∧ some k_ ≠ (.slice Ao23 y223.length co23 : Value).ownBlock)) _ _ y220 _ _ y223 1 t226 t227 false t231 _ ?side1 ?side2 ?side3 A1.out).mono ?_); (case side1 => exact Kd.N_V (HO222.out)); (case side2 => repeat (first | exact (Kd.R_reads' HO225.out).2.2 | (with_reducible refine cA ?_ _) | (with_reducible refine cN ?_ _) | (with_reducible refine cD ?_))); (case side3 => exact (Kd.R_reads' HO225.out).2.1); rintro e w24 ⟨v228, rfl, ho0, hb⟩; refine ⟨_, rfl, ?_⟩; replace HO222 := zK (Kd.N_elder' (zn HO222) (Kd.R_base ho0) hb); replace HO225 := zK (Kd.R_below (zr HO225) hb); have HO229 := zK (Kd.R_lower (Kd.R_mono (ok' := fun k_ => True) ho0 (fun _ hk_ => trivial)) (below_size (zo HB))); replace HB := zK (below_step (zo HB) hb); (try clear hb); (try clear hb2); (try clear hk); (try clear hi); (try clear ho0)) | ((with_reducible refine gate_dst (N := 1) rfl ?_); (try (refine zG (by rfl) ?_; dsimp only)); refine box_event ?hg (N := 1) ?hd (cs := #[.int .i64 0, .slice none 0 0, .bool false]) (t := 30) ?hr ?_; (case hd => rfl); (case hg => rfl); (case hr => first | (go_simp; done) | (go_simp; rfl)); intro gb232 hg w25 hbox hb; replace HO222 := zK (Kd.N_below (Kd.N_elderB (zn HO222) gb232 (Nat.le_of_eq hg.symm)) hb); replace HO225 := zK (Kd.R_below (zr HO225) hb); replace HO229 := zK (Kd.R_below (zr HO229) hb); have BK232 := zK (hbox); have GW232 := zK ((by rw [hg]; exact (below_size (zo HB)) : w.heap.size ≤ gb232)); have GE232 := zK ((by rw [hg]; exact (below_size (zo HB)) : w.heap.size ≤ gb232)); replace HB := zK (below_step (zo HB) hb); clear hb hbox hg; have hcz26_0 : w25.cell? ⟨gb232, 0, none⟩ = some (.int .i64 0) := (blk_cell BK232.out 0).trans rfl; have hcz26_1 : w25.cell? ⟨gb232, 1, none⟩ = some (.slice none 0 0) := (blk_cell BK232.out 1).trans rfl; have hcz26_2 : w25.cell? ⟨gb232, 2, none⟩ = some (.bool false) := (blk_cell BK232.out 2).trans rfl; have hfz26_0 := blk_frozen BK232.out 0; have hfz26_1 := blk_frozen BK232.out 1; have hfz26_2 := blk_frozen BK232.out 2; obtain ⟨Ao27, co27, eo27⟩ := Kd.R_slice HO229.out; subst eo27) | ((with_reducible refine gate_dst (N := 21) rfl ?_); (try (refine zG (by rfl) ?_; dsimp only)); refine Kd.R_lit k47 _ 47 ?hg (N := 21) ?hd (xs := ([(⟨0, 2⟩ : S47)] : List (S47))) (inner := [.int .i64 0, .int .i64 2]) (ok := fun _ => True) (okp := fun _ => True) ?hr ?hp (fun _ hk => hk) trivial (Below.refl _ _) (Nat.le_refl _) (by simp) ?_; (case hd => rfl); (case hg => rfl); (case hr => first | (go_simp; done) | (go_simp; rfl)); (case hp => exact (Reps.c2 (show Kd.M k47 _ _ _ (⟨0, 2⟩ : S47) [.int .i64 0, .int .i64 2] from (k47_mkM _ _ _ (⟨0, 2⟩ : S47) )) (Reps.none _ _))); intro v234 w28 ho29 hb hg_ hnew_; clear hg_ hnew_; (first | rw [← Ny233.out] at ho29 | (simp only [Int.reduceToNat] at ho29; rw [← Ny233.out] at ho29)); replace HO222 := zK (Kd.N_elder' (by (with_reducible repeat (first | apply nA | apply nN | apply nD)); exact (Kd.N_mono (Kd.N_far (p := ⟨gb232, 2, none⟩) (Kd.N_far (p := ⟨gb232, 1, none⟩) (Kd.N_far (p := ⟨gb232, 0, none⟩) (Kd.N_mono HO222.out (fun k_ hk => (⟨hk, hk.2⟩ : _ ∧ k_ ≠ gb232))) (fun _ hk => hk.2) (.int .i64 t226)) (fun _ hk => hk.2) (.slice Ao27 t227.length co27)) (fun _ hk => hk.2) (.bool false)) (fun _ h_ => h_.1))) (Kd.R_base ho29) hb); replace HO225 := zK (Kd.R_below (by (with_reducible repeat (first | apply Kd.R_alloc | apply Kd.R_drewN | apply Kd.R_drew)); exact (Kd.R_mono (Kd.R_far (p := ⟨gb232, 2, none⟩) (Kd.R_far (p := ⟨gb232, 1, none⟩) (Kd.R_far (p := ⟨gb232, 0, none⟩) (Kd.R_types HO225.out BK232.out (by decide)) (fun _ hk => hk.2) (.int .i64 t226)) (fun _ hk => hk.2) (.slice Ao27 t227.length co27)) (fun _ hk => hk.2) (.bool false)) (fun _ h_ => h_.1))) hb); have HO235 := zK (Kd.R_lower (Kd.R_new' ho29 (Kd.R_lt (by (with_reducible repeat (first | apply Kd.R_alloc | apply Kd.R_drewN | apply Kd.R_drew)); exact (Kd.R_mono (Kd.R_far (p := ⟨gb232, 2, none⟩) (Kd.R_far (p := ⟨gb232, 1, none⟩) (Kd.R_far (p := ⟨gb232, 0, none⟩) (Kd.R_types HO229.out BK232.out (by decide)) (fun _ hk => hk.2) (.int .i64 t226)) (fun _ hk => hk.2) (.slice Ao27 t227.length co27)) (fun _ hk => hk.2) (.bool false)) (fun _ h_ => h_.1))))) (below_size (zo HB))); replace HO229 := zK (Kd.R_elder' (by (with_reducible repeat (first | apply Kd.R_alloc | apply Kd.R_drewN | apply Kd.R_drew)); exact (Kd.R_mono (Kd.R_far (p := ⟨gb232, 2, none⟩) (Kd.R_far (p := ⟨gb232, 1, none⟩) (Kd.R_far (p := ⟨gb232, 0, none⟩) (Kd.R_types HO229.out BK232.out (by decide)) (fun _ hk => hk.2) (.int .i64 t226)) (fun _ hk => hk.2) (.slice Ao27 t227.length co27)) (fun _ hk => hk.2) (.bool false)) (fun _ h_ => h_.1))) (Kd.R_base ho29) hb); replace BK232 := zK (blk_below (g := gb232) (o := .cells #[.int .i64 t226, .slice Ao27 t227.length co27, .bool false] 30 (0, 0)) (by refine zM ?_; refine blk_put (cs := #[.int .i64 t226, .slice Ao27 t227.length co27, .bool false]) ?_ 2 _ rfl; refine zM ?_; refine blk_put (cs := #[.int .i64 t226, .slice none 0 0, .bool false]) ?_ 1 _ rfl; refine zM ?_; refine blk_put (cs := #[.int .i64 0, .slice none 0 0, .bool false]) ?_ 0 _ rfl; refine zM ?_; exact BK232.out) hb); replace HB := zK (below_step (zo HB) hb); clear hb ho29; obtain ⟨Ao30, co30, eo30⟩ := Kd.R_slice HO235.out; subst eo30) | ((with_reducible refine zC (f := 15) rfl ?_); refine goesL_ (some 24) rfl rfl Try.func15 (by kernel_rfl) rfl #[.agg #[.int .i64 (-1), .slice Ao30 y233.length co30, .bool true]] rfl (by (try simp only [List.map_toArray, List.map_cons, List.map_nil]); first | done | rfl | (simp only [List.length_drop, List.length_take]; rfl)) ?_; (with_reducible refine (ineq_Tight.calls k (-1) _ _ y233 true t236 t237 t240 t241 _ ?side1 ?side2 A2.out).mono ?_); (case side1 => repeat (first | exact (Kd.R_reads' HO235.out).2.2 | (with_reducible refine cA ?_ _) | (with_reducible refine cN ?_ _) | (with_reducible refine cD ?_))); (case side2 => exact (Kd.R_reads' HO235.out).2.1); rintro e w31 ⟨v238, rfl, ho0, hb⟩; refine ⟨_, rfl, ?_⟩; replace HO222 := zK (Kd.N_elder' (zn HO222) (Kd.R_base ho0) hb); replace HO225 := zK (Kd.R_below (zr HO225) hb); have HO239 := zK (Kd.R_lower (Kd.R_new' (Kd.R_new' ho0 (Kd.R_lt (zr HO229))) (Kd.R_lt (zr HO235))) (below_size (zo HB))); replace HO229 := zK (Kd.R_elder' (zr HO229) (Kd.R_base ho0) hb); replace HO235 := zK (Kd.R_elder' (zr HO235) (Kd.R_base ho0) hb); replace BK232 := zK (blk_below (g := gb232) (o := .cells #[.int .i64 t226, .slice Ao27 t227.length co27, .bool false] 30 (0, 0)) (zb BK232) hb); replace HB := zK (below_step (zo HB) hb); (try clear hb); (try clear hb2); (try clear hk); (try clear hi); (try clear ho0)) | ((with_reducible refine gate_dst (N := 3) rfl ?_); (try (refine zG (by rfl) ?_; dsimp only)); refine box_event ?hg (N := 3) ?hd (cs := #[.int .i64 0, .slice none 0 0, .bool false]) (t := 30) ?hr ?_; (case hd => rfl); (case hg => rfl); (case hr => first | (go_simp; done) | (go_simp; rfl)); intro gb242 hg w32 hbox hb; replace HO222 := zK (Kd.N_below (Kd.N_elderB (zn HO222) gb242 (Nat.le_of_eq hg.symm)) hb); replace HO225 := zK (Kd.R_below (zr HO225) hb); replace HO229 := zK (Kd.R_below (zr HO229) hb); replace HO235 := zK (Kd.R_below (zr HO235) hb); replace HO239 := zK (Kd.R_below (zr HO239) hb); have BK242 := zK (hbox); have GW242 := zK ((by rw [hg]; exact (below_size (zo HB)) : w.heap.size ≤ gb242)); have GE242 := zK ((by rw [hg]; exact (below_size (zo HB)) : w.heap.size ≤ gb242)); replace HB := zK (below_step (zo HB) hb); have NB232_242 := zK ((by rw [hg]; exact Nat.ne_of_lt (blk_lt (g := gb232) (o := .cells #[.int .i64 t226, .slice Ao27 t227.length co27, .bool false] 30 (0, 0)) (zb BK232)) : gb232 ≠ gb242)); have NB242_232 := zK ((by rw [hg]; exact Nat.ne_of_gt (blk_lt (g := gb232) (o := .cells #[.int .i64 t226, .slice Ao27 t227.length co27, .bool false] 30 (0, 0)) (zb BK232)) : gb242 ≠ gb232)); replace BK232 := zK (blk_below (g := gb232) (o := .cells #[.int .i64 t226, .slice Ao27 t227.length co27, .bool false] 30 (0, 0)) (zb BK232) hb); clear hb hbox hg; have hnb33 := NB242_232.out; have hnc33 := NB232_242.out; have hcz34_0 : w32.cell? ⟨gb242, 0, none⟩ = some (.int .i64 0) := (blk_cell BK242.out 0).trans rfl; have hcz34_1 : w32.cell? ⟨gb242, 1, none⟩ = some (.slice none 0 0) := (blk_cell BK242.out 1).trans rfl; have hcz34_2 : w32.cell? ⟨gb242, 2, none⟩ = some (.bool false) := (blk_cell BK242.out 2).trans rfl; have hfz34_0 := blk_frozen BK242.out 0; have hfz34_1 := blk_frozen BK242.out 1; have hfz34_2 := blk_frozen BK242.out 2; obtain ⟨Ao35, co35, eo35⟩ := Kd.R_slice HO239.out; subst eo35; have hcz36_0 : w32.cell? ⟨gb232, 0, none⟩ = some (.int .i64 t226) := (blk_cell BK232.out 0).trans rfl; have hcz36_1 : w32.cell? ⟨gb232, 1, none⟩ = some (.slice Ao27 t227.length co27) := (blk_cell BK232.out 1).trans rfl; have hcz36_2 : w32.cell? ⟨gb232, 2, none⟩ = some (.bool false) := (blk_cell BK232.out 2).trans rfl; have hfz36_0 := blk_frozen BK232.out 0; have hfz36_1 := blk_frozen BK232.out 1; have hfz36_2 := blk_frozen BK232.out 2) | (go_at_call 19; (with_reducible refine (ineq_Absurd.calls k t226 _ _ t227 false true _ ?side1 ?side2 A7.out).mono ?_); (case side1 => refine (Kd.R_reads' (e := 47) (base := w.heap.size) (ok := fun k_ => ((True ∧ some k_ ≠ (.slice Ao30 y233.length co30 : Value).ownBlock) ∧ some k_ ≠ (.slice Ao35 t237.length co35 : Value).ownBlock)) (n := t227.length) (c := co27) ?_).2.2; exact (by (with_reducible repeat (first | apply Kd.R_alloc | apply Kd.R_drewN | apply Kd.R_drew)); exact (Kd.R_mono (Kd.R_far (p := ⟨gb242, 2, none⟩) (Kd.R_far (p := ⟨gb242, 1, none⟩) (Kd.R_far (p := ⟨gb242, 0, none⟩) (Kd.R_types HO229.out BK242.out (by decide)) (fun _ hk => hk.2) (.int .i64 t236)) (fun _ hk => hk.2) (.slice Ao35 t237.length co35)) (fun _ hk => hk.2) (.bool t240)) (fun _ h_ => h_.1)))); (case side2 => exact (Kd.R_reads' HO229.out).2.1); rintro e w37 ⟨rfl, hb⟩; replace HO222 := zK (Kd.N_below (by (with_reducible repeat (first | apply nA | apply nN | apply nD)); exact (Kd.N_mono (Kd.N_far (p := ⟨gb242, 2, none⟩) (Kd.N_far (p := ⟨gb242, 1, none⟩) (Kd.N_far (p := ⟨gb242, 0, none⟩) (Kd.N_mono HO222.out (fun k_ hk => (⟨hk, hk.2⟩ : _ ∧ k_ ≠ gb242))) (fun _ hk => hk.2) (.int .i64 t236)) (fun _ hk => hk.2) (.slice Ao35 t237.length co35)) (fun _ hk => hk.2) (.bool t240)) (fun _ h_ => h_.1))) hb); replace HO225 := zK (Kd.R_below (by (with_reducible repeat (first | apply Kd.R_alloc | apply Kd.R_drewN | apply Kd.R_drew)); exact (Kd.R_mono (Kd.R_far (p := ⟨gb242, 2, none⟩) (Kd.R_far (p := ⟨gb242, 1, none⟩) (Kd.R_far (p := ⟨gb242, 0, none⟩) (Kd.R_types HO225.out BK242.out (by decide)) (fun _ hk => hk.2) (.int .i64 t236)) (fun _ hk => hk.2) (.slice Ao35 t237.length co35)) (fun _ hk => hk.2) (.bool t240)) (fun _ h_ => h_.1))) hb); replace HO229 := zK (Kd.R_below (by (with_reducible repeat (first | apply Kd.R_alloc | apply Kd.R_drewN | apply Kd.R_drew)); exact (Kd.R_mono (Kd.R_far (p := ⟨gb242, 2, none⟩) (Kd.R_far (p := ⟨gb242, 1, none⟩) (Kd.R_far (p := ⟨gb242, 0, none⟩) (Kd.R_types HO229.out BK242.out (by decide)) (fun _ hk => hk.2) (.int .i64 t236)) (fun _ hk => hk.2) (.slice Ao35 t237.length co35)) (fun _ hk => hk.2) (.bool t240)) (fun _ h_ => h_.1))) hb); replace HO235 := zK (Kd.R_below (by (with_reducible repeat (first | apply Kd.R_alloc | apply Kd.R_drewN | apply Kd.R_drew)); exact (Kd.R_mono (Kd.R_far (p := ⟨gb242, 2, none⟩) (Kd.R_far (p := ⟨gb242, 1, none⟩) (Kd.R_far (p := ⟨gb242, 0, none⟩) (Kd.R_types HO235.out BK242.out (by decide)) (fun _ hk => hk.2) (.int .i64 t236)) (fun _ hk => hk.2) (.slice Ao35 t237.length co35)) (fun _ hk => hk.2) (.bool t240)) (fun _ h_ => h_.1))) hb); replace HO239 := zK (Kd.R_below (by (with_reducible repeat (first | apply Kd.R_alloc | apply Kd.R_drewN | apply Kd.R_drew)); exact (Kd.R_mono (Kd.R_far (p := ⟨gb242, 2, none⟩) (Kd.R_far (p := ⟨gb242, 1, none⟩) (Kd.R_far (p := ⟨gb242, 0, none⟩) (Kd.R_types HO239.out BK242.out (by decide)) (fun _ hk => hk.2) (.int .i64 t236)) (fun _ hk => hk.2) (.slice Ao35 t237.length co35)) (fun _ hk => hk.2) (.bool t240)) (fun _ h_ => h_.1))) hb); replace BK232 := zK (blk_below (g := gb232) (o := .cells #[.int .i64 t226, .slice Ao27 t227.length co27, .bool false] 30 (0, 0)) (zb BK232) hb); replace BK242 := zK (blk_below (g := gb242) (o := .cells #[.int .i64 t236, .slice Ao35 t237.length co35, .bool t240] 30 (0, 0)) (by refine zM ?_; refine blk_put (cs := #[.int .i64 t236, .slice Ao35 t237.length co35, .bool false]) ?_ 2 _ rfl; refine zM ?_; refine blk_put (cs := #[.int .i64 t236, .slice none 0 0, .bool false]) ?_ 1 _ rfl; refine zM ?_; refine blk_put (cs := #[.int .i64 0, .slice none 0 0, .bool false]) ?_ 0 _ rfl; refine zM ?_; exact BK242.out) hb); replace HB := zK (below_step (zo HB) hb); (try clear hb); (try clear hb2); (try clear hk); (try clear hi); have hcz38_0 : w37.cell? ⟨gb242, 0, none⟩ = some (.int .i64 t236) := (blk_cell BK242.out 0).trans rfl; have hcz38_1 : w37.cell? ⟨gb242, 1, none⟩ = some (.slice Ao35 t237.length co35) := (blk_cell BK242.out 1).trans rfl; have hcz38_2 : w37.cell? ⟨gb242, 2, none⟩ = some (.bool t240) := (blk_cell BK242.out 2).trans rfl; have hfz38_0 := blk_frozen BK242.out 0; have hfz38_1 := blk_frozen BK242.out 1; have hfz38_2 := blk_frozen BK242.out 2))
         go_ret
         exact ⟨by first | rfl | (simp [errW_none, errW_some] <;> rfl) | (simp [*, errW_none, errW_some] <;> rfl), zo HB⟩
        ·rw [if_neg c11] at H
         exact absurd H (by simp)
       ·rw [if_neg c10] at H
        exact absurd H (by simp)
      ·rw [if_neg c9] at H
       exact absurd H (by simp)
     ·replace c8 := Bool.eq_false_iff.mpr c8
      subst c8
      have H1 : (none) = some r := by rw [if_neg (show ¬ (false = true) by decide)] at H; exact H
      clear H
      have H := H1
      clear H1
      exact absurd H (by simp)
   ·rw [if_neg c5] at H
    exact absurd H (by simp)
  ·rw [if_neg c4] at H
   exact absurd H (by simp)
 ·rw [if_neg c3] at H
  exact absurd H (by simp)

end Go.Proofs.Ytmedciidghmkkaa.PIneqTurns
