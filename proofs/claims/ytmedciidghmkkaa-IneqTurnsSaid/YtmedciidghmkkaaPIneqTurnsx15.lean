/- What the call of each function that the law reaches comes to: it answers as the plain function of the same name does, wherever that one answers; and the law itself out of its plain form. Written by a program of this session (an extended copy of the printer); no condition but what stands in each theorem. -/
import Derived.Test.YtmedciidghmkkaaPIneqTurnsx0
import Derived.Test.YtmedciidghmkkaaPIneqTurnsx2
import Derived.Test.YtmedciidghmkkaaPIneqTurnsx7
import Derived.Test.YtmedciidghmkkaaPIneqTurnsx8
import Derived.Test.YtmedciidghmkkaaPIneqTurnsx13
import Derived.Test.YtmedciidghmkkaaPIneqTurnsx14
namespace Go.Proofs.Ytmedciidghmkkaa.PIneqTurns
open Go.RowKit Go.Proofs.YtmedciidghmkkaaW.PrintWords Go.Proofs.YtmedciidghmkkaaW.PrintLast Go.Proofs.YtmedciidghmkkaaW.PrintMore
open Go.Proofs.YtmedciidghmkkaaW.PrintWords renaming blk_drewN → zN, blk_drew → zD, blk_alloc → zA, below_alloc → yA, pw_below_drewN → yN, below_drew1 → yD, below_set → yS, gate_callee → zC
open Go.Proofs.YtmedciidghmkkaaW.PrintWords.Kd renaming V_alloc → vA, V_drewN → vN, V_drew → vD, N_alloc → nA, N_drewN → nN, N_drew → nD, C_alloc → cA, C_drewN → cN, C_drew → cD, V_mono → vM, V_far → vF
open Go.Proofs.YtmedciidghmkkaaW.PrintWords.Aside0 renaming mk → zK
attribute [local go_sem] max2_int min2_int max_two min_two max_three min_three max_four min_four   -- for this text's walks alone
set_option linter.unusedVariables false
set_option linter.unusedSimpArgs false

/-! ### sequiturlaw28_IneqTurns: function 6 -/
def sequiturlaw28_IneqTurns.f (k : Nat) (a0_0 : Int) (l0_1 : List (S47)) (a0_2 : Bool) (a1_0 : Int) (l1_1 : List (S47)) (a1_2 : Bool) : Option (Bool) := (sequiturlaw28_Short.f k 2 (([(⟨(⟨a0_0, l0_1⟩ : S28), a0_2⟩ : S30), (⟨(⟨a1_0, l1_1⟩ : S28), a1_2⟩ : S30)] : List (S30)))).bind fun t431 => (if t431 = true then ((ineq_Not.f k a0_0 l0_1 a0_2).bind fun bt433 => ((sequiturref28_Not.f k a0_0 l0_1 a0_2).bind fun bt440 => ((ineq_Tight.f k a0_0 l0_1 a0_2).bind fun bt447 => ((sequiturref28_Tight.f k a0_0 l0_1 a0_2).bind fun bt454 => ((sequiturbase_Ineq.f k bt433.1 bt433.2.1 bt433.2.2.1 bt440.1 bt440.2.1 bt440.2.2.1).bind fun t461 => (if t461 = true then (if bt433.2.2.2 = bt440.2.2.2 then ((sequiturbase_Ineq.f k bt447.1 bt447.2.1 bt447.2.2.1 bt454.1 bt454.2.1 bt454.2.2.1).bind fun t462 => (if t462 = true then (if bt447.2.2.2 = bt454.2.2.2 then ((ineq_Same.f k a0_0 l0_1 a0_2 a1_0 l1_1 a1_2).bind fun t463 => ((sequiturbase_Ineq.f k a0_0 l0_1 a0_2 a1_0 l1_1 a1_2).bind fun t464 => (if (t463 == t464) = true then ((ineq_Same.f k a0_0 l0_1 a0_2 a0_0 l0_1 a0_2).bind fun t465 => (if t465 = true then ((sequiturlaw28_goes.f k).bind fun t466 => (some t466)) else (none))) else (none)))) else (none)) else (none))) else (none)) else (none))))))) else ((sequiturlaw28_goes.f k).bind fun t432 => (some t432)))
theorem sequiturlaw28_IneqTurns.mono : ∀ a0 a1 a2 a3 a4 a5 k, LeO (sequiturlaw28_IneqTurns.f k a0 a1 a2 a3 a4 a5) (sequiturlaw28_IneqTurns.f (k + 1) a0 a1 a2 a3 a4 a5) := by
 intro a0 a1 a2 a3 a4 a5 k
 unfold sequiturlaw28_IneqTurns.f
 repeat' first
   | (with_reducible exact ineq_Not.mono _ _ _ _)
   | (with_reducible exact ineq_Same.mono _ _ _ _ _ _ _)
   | (with_reducible exact ineq_Tight.mono _ _ _ _)
   | (with_reducible exact sequiturbase_Ineq.mono _ _ _ _ _ _ _)
   | (with_reducible exact sequiturlaw28_Short.mono _ _ _)
   | (with_reducible exact sequiturlaw28_goes.mono _)
   | (with_reducible exact sequiturref28_Not.mono _ _ _ _)
   | (with_reducible exact sequiturref28_Tight.mono _ _ _ _)
   | (with_reducible exact LeO.refl _)
   | (with_reducible exact LeO.none _)
   | (with_reducible refine LeO.ite ?_ ?_)
   | (with_reducible refine LeO.bind ?_ (fun _ => ?_))
   | exact ineq_Not.mono _ _ _ _
   | exact ineq_Same.mono _ _ _ _ _ _ _
   | exact ineq_Tight.mono _ _ _ _
   | exact sequiturbase_Ineq.mono _ _ _ _ _ _ _
   | exact sequiturlaw28_Short.mono _ _ _
   | exact sequiturlaw28_goes.mono _
   | exact sequiturref28_Not.mono _ _ _ _
   | exact sequiturref28_Tight.mono _ _ _ _
   | exact LeO.none _
   | refine LeO.ite ?_ ?_
   | refine LeO.bind ?_ (fun _ => ?_)
def sequiturlaw28_IneqTurns.T7 : Bool × List (List Nat × List Nat) := (true, [([], []), ([], []), ([0, 1], [0, 1]), ([2, 2], [2]), ([3], [3]), ([3], [3]), ([4, 5, 3], [3, 4, 5]), ([3, 6], [3, 6]), ([7, 3], [7]), ([8], [8]), ([8], [8]), ([9, 10, 8, 8], [8, 9, 10]), ([8, 11], [8, 11]), ([12, 11], [12]), ([13], [13]), ([13], [13]), ([14, 15, 13], [13, 14, 15]), ([13, 16], [13, 16]), ([17, 13], [17]), ([18], [18]), ([18], [18]), ([19, 20, 18, 18], [18, 19, 20]), ([18], [18]), ([18], [18]), ([22, 23, 21, 18], [18, 22, 23]), ([21, 24, 18], [18, 21, 24]), ([18, 25], [18, 25]), ([26, 24], [26]), ([27], [27]), ([27], [27]), ([28, 29, 27, 27], [27, 28, 29]), ([27, 30], [27, 30]), ([31, 30], [31]), ([32, 32], [32]), ([32, 33], [32, 33]), ([34, 33, 0, 1, 2, 3, 4, 5, 6, 7, 8, 9, 10, 11, 12, 13, 14, 15, 16, 17, 18, 19, 20, 21, 22, 23, 24, 25, 26, 27, 28, 29, 30, 31, 32, 33, 34], [34])])
def sequiturlaw28_IneqTurns.B7 : List Nat := [0, 0, 3, 7, 15, 15, 63, 127, 255, 511, 511, 2047, 4095, 8191, 16383, 16383, 65535, 131071, 262143, 524287, 524287, 2097151, 524287, 524287, 16777215, 33554431, 67108863, 134217727, 268435455, 268435455, 1073741823, 2147483647, 4294967295, 8589934591, 17179869183, 34359738367]
theorem sequiturlaw28_IneqTurns.tab7 : rtab .any (opsOf Try.f6 7) = sequiturlaw28_IneqTurns.T7 := by kernel_rfl
theorem sequiturlaw28_IneqTurns.bits7 : waitsOk sequiturlaw28_IneqTurns.T7.2 sequiturlaw28_IneqTurns.B7 = true := by kernel_rfl
set_option maxHeartbeats 8000000 in
set_option maxRecDepth 100000 in
theorem sequiturlaw28_IneqTurns.calls (k : Nat) (a0_0 : Int) (P0_1_ : Nat → Prop) (A0_1 : Option Addr) (c0_1 : Nat) (l0_1 : List (S47)) (a0_2 : Bool) (a1_0 : Int) (P1_1_ : Nat → Prop) (A1_1 : Option Addr) (c1_1 : Nat) (l1_1 : List (S47)) (a1_2 : Bool) (r : Bool) (w : World) (hs0_1 : Kd.V k47 47 w w.heap.size (fun k_ => P0_1_ k_) (.slice A0_1 l0_1.length c0_1) l0_1) (hs1_1 : Kd.V k47 47 w w.heap.size (fun k_ => P1_1_ k_) (.slice A1_1 l1_1.length c1_1) l1_1) (h : sequiturlaw28_IneqTurns.f k a0_0 l0_1 a0_2 a1_0 l1_1 a1_2 = some r) :
  Calls Try.prog 6 #[.agg #[.int .i64 a0_0, .slice A0_1 l0_1.length c0_1, .bool a0_2], .agg #[.int .i64 a1_0, .slice A1_1 l1_1.length c1_1, .bool a1_2]] w fun e w' => e = .returned (.bool r) ∧ Below w.heap.size w w' := by
 have hu30 := Try.underlying30
 have HO0_1 := zK (show Kd.V k47 47 w w.heap.size (fun k_ => ((P0_1_ k_ ∨ P1_1_ k_) ∨ w.heap.size ≤ k_)) (.slice A0_1 l0_1.length c0_1) l0_1 from vM hs0_1 (fun k_ hk => .inl (.inl hk)))
 have HO1_1 := zK (show Kd.V k47 47 w w.heap.size (fun k_ => ((P0_1_ k_ ∨ P1_1_ k_) ∨ w.heap.size ≤ k_)) (.slice A1_1 l1_1.length c1_1) l1_1 from vM hs1_1 (fun k_ hk => .inl (.inr hk)))
 have HB := zK (Below.refl w.heap.size w)
 have H : ((sequiturlaw28_Short.f k 2 (([(⟨(⟨a0_0, l0_1⟩ : S28), a0_2⟩ : S30), (⟨(⟨a1_0, l1_1⟩ : S28), a1_2⟩ : S30)] : List (S30)))).bind fun t431 => (if t431 = true then ((ineq_Not.f k a0_0 l0_1 a0_2).bind fun bt433 => ((sequiturref28_Not.f k a0_0 l0_1 a0_2).bind fun bt440 => ((ineq_Tight.f k a0_0 l0_1 a0_2).bind fun bt447 => ((sequiturref28_Tight.f k a0_0 l0_1 a0_2).bind fun bt454 => ((sequiturbase_Ineq.f k bt433.1 bt433.2.1 bt433.2.2.1 bt440.1 bt440.2.1 bt440.2.2.1).bind fun t461 => (if t461 = true then (if bt433.2.2.2 = bt440.2.2.2 then ((sequiturbase_Ineq.f k bt447.1 bt447.2.1 bt447.2.2.1 bt454.1 bt454.2.1 bt454.2.2.1).bind fun t462 => (if t462 = true then (if bt447.2.2.2 = bt454.2.2.2 then ((ineq_Same.f k a0_0 l0_1 a0_2 a1_0 l1_1 a1_2).bind fun t463 => ((sequiturbase_Ineq.f k a0_0 l0_1 a0_2 a1_0 l1_1 a1_2).bind fun t464 => (if (t463 == t464) = true then ((ineq_Same.f k a0_0 l0_1 a0_2 a0_0 l0_1 a0_2).bind fun t465 => (if t465 = true then ((sequiturlaw28_goes.f k).bind fun t466 => (some t466)) else (none))) else (none)))) else (none)) else (none))) else (none)) else (none))))))) else ((sequiturlaw28_goes.f k).bind fun t432 => (some t432)))) = some r := h
 clear h
 obtain ⟨y428, hy428⟩ : ∃ y_ : List (S30), y_ = (([(⟨(⟨a0_0, l0_1⟩ : S28), a0_2⟩ : S30), (⟨(⟨a1_0, l1_1⟩ : S28), a1_2⟩ : S30)] : List (S30))) := ⟨_, rfl⟩
 replace H : ((sequiturlaw28_Short.f k 2 y428).bind fun t431 => (if t431 = true then ((ineq_Not.f k a0_0 l0_1 a0_2).bind fun bt433 => ((sequiturref28_Not.f k a0_0 l0_1 a0_2).bind fun bt440 => ((ineq_Tight.f k a0_0 l0_1 a0_2).bind fun bt447 => ((sequiturref28_Tight.f k a0_0 l0_1 a0_2).bind fun bt454 => ((sequiturbase_Ineq.f k bt433.1 bt433.2.1 bt433.2.2.1 bt440.1 bt440.2.1 bt440.2.2.1).bind fun t461 => (if t461 = true then (if bt433.2.2.2 = bt440.2.2.2 then ((sequiturbase_Ineq.f k bt447.1 bt447.2.1 bt447.2.2.1 bt454.1 bt454.2.1 bt454.2.2.1).bind fun t462 => (if t462 = true then (if bt447.2.2.2 = bt454.2.2.2 then ((ineq_Same.f k a0_0 l0_1 a0_2 a1_0 l1_1 a1_2).bind fun t463 => ((sequiturbase_Ineq.f k a0_0 l0_1 a0_2 a1_0 l1_1 a1_2).bind fun t464 => (if (t463 == t464) = true then ((ineq_Same.f k a0_0 l0_1 a0_2 a0_0 l0_1 a0_2).bind fun t465 => (if t465 = true then ((sequiturlaw28_goes.f k).bind fun t466 => (some t466)) else (none))) else (none)))) else (none)) else (none))) else (none)) else (none))))))) else ((sequiturlaw28_goes.f k).bind fun t432 => (some t432)))) = some r := by first | (rw [hy428]; with_reducible exact H) | (have H2_ := (Option.bind_some _ _).symm.trans H; rw [hy428]; with_reducible exact H2_) | (have H2_ := (Option.bind_some _ _).symm.trans H; with_reducible exact H2_) | with_reducible exact H | (rw [hy428]; exact H) | exact H
 have Ny428 := zK hy428
 clear hy428
 replace H := Option.bind_eq_some_iff.mp H
 obtain ⟨t431, A30, H⟩ := H
 replace H : (if t431 = true then ((ineq_Not.f k a0_0 l0_1 a0_2).bind fun bt433 => ((sequiturref28_Not.f k a0_0 l0_1 a0_2).bind fun bt440 => ((ineq_Tight.f k a0_0 l0_1 a0_2).bind fun bt447 => ((sequiturref28_Tight.f k a0_0 l0_1 a0_2).bind fun bt454 => ((sequiturbase_Ineq.f k bt433.1 bt433.2.1 bt433.2.2.1 bt440.1 bt440.2.1 bt440.2.2.1).bind fun t461 => (if t461 = true then (if bt433.2.2.2 = bt440.2.2.2 then ((sequiturbase_Ineq.f k bt447.1 bt447.2.1 bt447.2.2.1 bt454.1 bt454.2.1 bt454.2.2.1).bind fun t462 => (if t462 = true then (if bt447.2.2.2 = bt454.2.2.2 then ((ineq_Same.f k a0_0 l0_1 a0_2 a1_0 l1_1 a1_2).bind fun t463 => ((sequiturbase_Ineq.f k a0_0 l0_1 a0_2 a1_0 l1_1 a1_2).bind fun t464 => (if (t463 == t464) = true then ((ineq_Same.f k a0_0 l0_1 a0_2 a0_0 l0_1 a0_2).bind fun t465 => (if t465 = true then ((sequiturlaw28_goes.f k).bind fun t466 => (some t466)) else (none))) else (none)))) else (none)) else (none))) else (none)) else (none))))))) else ((sequiturlaw28_goes.f k).bind fun t432 => (some t432))) = some r := H
 have A3 := zK A30
 clear A30
 by_cases c4 : t431 = true
 ·subst c4
  have H1 : ((ineq_Not.f k a0_0 l0_1 a0_2).bind fun bt433 => ((sequiturref28_Not.f k a0_0 l0_1 a0_2).bind fun bt440 => ((ineq_Tight.f k a0_0 l0_1 a0_2).bind fun bt447 => ((sequiturref28_Tight.f k a0_0 l0_1 a0_2).bind fun bt454 => ((sequiturbase_Ineq.f k bt433.1 bt433.2.1 bt433.2.2.1 bt440.1 bt440.2.1 bt440.2.2.1).bind fun t461 => (if t461 = true then (if bt433.2.2.2 = bt440.2.2.2 then ((sequiturbase_Ineq.f k bt447.1 bt447.2.1 bt447.2.2.1 bt454.1 bt454.2.1 bt454.2.2.1).bind fun t462 => (if t462 = true then (if bt447.2.2.2 = bt454.2.2.2 then ((ineq_Same.f k a0_0 l0_1 a0_2 a1_0 l1_1 a1_2).bind fun t463 => ((sequiturbase_Ineq.f k a0_0 l0_1 a0_2 a1_0 l1_1 a1_2).bind fun t464 => (if (t463 == t464) = true then ((ineq_Same.f k a0_0 l0_1 a0_2 a0_0 l0_1 a0_2).bind fun t465 => (if t465 = true then ((sequiturlaw28_goes.f k).bind fun t466 => (some t466)) else (none))) else (none)))) else (none)) else (none))) else (none)) else (none))))))) = some r := by rw [if_pos rfl] at H; exact H
  clear H
  have H := H1
  clear H1
  replace H := Option.bind_eq_some_iff.mp H
  obtain ⟨⟨t433, t434, t437, t438⟩, A50, H⟩ := H
  replace H : ((sequiturref28_Not.f k a0_0 l0_1 a0_2).bind fun bt440 => ((ineq_Tight.f k a0_0 l0_1 a0_2).bind fun bt447 => ((sequiturref28_Tight.f k a0_0 l0_1 a0_2).bind fun bt454 => ((sequiturbase_Ineq.f k t433 t434 t437 bt440.1 bt440.2.1 bt440.2.2.1).bind fun t461 => (if t461 = true then (if t438 = bt440.2.2.2 then ((sequiturbase_Ineq.f k bt447.1 bt447.2.1 bt447.2.2.1 bt454.1 bt454.2.1 bt454.2.2.1).bind fun t462 => (if t462 = true then (if bt447.2.2.2 = bt454.2.2.2 then ((ineq_Same.f k a0_0 l0_1 a0_2 a1_0 l1_1 a1_2).bind fun t463 => ((sequiturbase_Ineq.f k a0_0 l0_1 a0_2 a1_0 l1_1 a1_2).bind fun t464 => (if (t463 == t464) = true then ((ineq_Same.f k a0_0 l0_1 a0_2 a0_0 l0_1 a0_2).bind fun t465 => (if t465 = true then ((sequiturlaw28_goes.f k).bind fun t466 => (some t466)) else (none))) else (none)))) else (none)) else (none))) else (none)) else (none)))))) = some r := H
  have A5 := zK A50
  clear A50
  replace H := Option.bind_eq_some_iff.mp H
  obtain ⟨⟨t440, t441, t444, t445⟩, A60, H⟩ := H
  replace H : ((ineq_Tight.f k a0_0 l0_1 a0_2).bind fun bt447 => ((sequiturref28_Tight.f k a0_0 l0_1 a0_2).bind fun bt454 => ((sequiturbase_Ineq.f k t433 t434 t437 t440 t441 t444).bind fun t461 => (if t461 = true then (if t438 = t445 then ((sequiturbase_Ineq.f k bt447.1 bt447.2.1 bt447.2.2.1 bt454.1 bt454.2.1 bt454.2.2.1).bind fun t462 => (if t462 = true then (if bt447.2.2.2 = bt454.2.2.2 then ((ineq_Same.f k a0_0 l0_1 a0_2 a1_0 l1_1 a1_2).bind fun t463 => ((sequiturbase_Ineq.f k a0_0 l0_1 a0_2 a1_0 l1_1 a1_2).bind fun t464 => (if (t463 == t464) = true then ((ineq_Same.f k a0_0 l0_1 a0_2 a0_0 l0_1 a0_2).bind fun t465 => (if t465 = true then ((sequiturlaw28_goes.f k).bind fun t466 => (some t466)) else (none))) else (none)))) else (none)) else (none))) else (none)) else (none))))) = some r := H
  have A6 := zK A60
  clear A60
  replace H := Option.bind_eq_some_iff.mp H
  obtain ⟨⟨t447, t448, t451, t452⟩, A70, H⟩ := H
  replace H : ((sequiturref28_Tight.f k a0_0 l0_1 a0_2).bind fun bt454 => ((sequiturbase_Ineq.f k t433 t434 t437 t440 t441 t444).bind fun t461 => (if t461 = true then (if t438 = t445 then ((sequiturbase_Ineq.f k t447 t448 t451 bt454.1 bt454.2.1 bt454.2.2.1).bind fun t462 => (if t462 = true then (if t452 = bt454.2.2.2 then ((ineq_Same.f k a0_0 l0_1 a0_2 a1_0 l1_1 a1_2).bind fun t463 => ((sequiturbase_Ineq.f k a0_0 l0_1 a0_2 a1_0 l1_1 a1_2).bind fun t464 => (if (t463 == t464) = true then ((ineq_Same.f k a0_0 l0_1 a0_2 a0_0 l0_1 a0_2).bind fun t465 => (if t465 = true then ((sequiturlaw28_goes.f k).bind fun t466 => (some t466)) else (none))) else (none)))) else (none)) else (none))) else (none)) else (none)))) = some r := H
  have A7 := zK A70
  clear A70
  replace H := Option.bind_eq_some_iff.mp H
  obtain ⟨⟨t454, t455, t458, t459⟩, A80, H⟩ := H
  replace H : ((sequiturbase_Ineq.f k t433 t434 t437 t440 t441 t444).bind fun t461 => (if t461 = true then (if t438 = t445 then ((sequiturbase_Ineq.f k t447 t448 t451 t454 t455 t458).bind fun t462 => (if t462 = true then (if t452 = t459 then ((ineq_Same.f k a0_0 l0_1 a0_2 a1_0 l1_1 a1_2).bind fun t463 => ((sequiturbase_Ineq.f k a0_0 l0_1 a0_2 a1_0 l1_1 a1_2).bind fun t464 => (if (t463 == t464) = true then ((ineq_Same.f k a0_0 l0_1 a0_2 a0_0 l0_1 a0_2).bind fun t465 => (if t465 = true then ((sequiturlaw28_goes.f k).bind fun t466 => (some t466)) else (none))) else (none)))) else (none)) else (none))) else (none)) else (none))) = some r := H
  have A8 := zK A80
  clear A80
  replace H := Option.bind_eq_some_iff.mp H
  obtain ⟨t461, A90, H⟩ := H
  replace H : (if t461 = true then (if t438 = t445 then ((sequiturbase_Ineq.f k t447 t448 t451 t454 t455 t458).bind fun t462 => (if t462 = true then (if t452 = t459 then ((ineq_Same.f k a0_0 l0_1 a0_2 a1_0 l1_1 a1_2).bind fun t463 => ((sequiturbase_Ineq.f k a0_0 l0_1 a0_2 a1_0 l1_1 a1_2).bind fun t464 => (if (t463 == t464) = true then ((ineq_Same.f k a0_0 l0_1 a0_2 a0_0 l0_1 a0_2).bind fun t465 => (if t465 = true then ((sequiturlaw28_goes.f k).bind fun t466 => (some t466)) else (none))) else (none)))) else (none)) else (none))) else (none)) else (none)) = some r := H
  have A9 := zK A90
  clear A90
  by_cases c10 : t461 = true
  ·subst c10
   have H1 : (if t438 = t445 then ((sequiturbase_Ineq.f k t447 t448 t451 t454 t455 t458).bind fun t462 => (if t462 = true then (if t452 = t459 then ((ineq_Same.f k a0_0 l0_1 a0_2 a1_0 l1_1 a1_2).bind fun t463 => ((sequiturbase_Ineq.f k a0_0 l0_1 a0_2 a1_0 l1_1 a1_2).bind fun t464 => (if (t463 == t464) = true then ((ineq_Same.f k a0_0 l0_1 a0_2 a0_0 l0_1 a0_2).bind fun t465 => (if t465 = true then ((sequiturlaw28_goes.f k).bind fun t466 => (some t466)) else (none))) else (none)))) else (none)) else (none))) else (none)) = some r := by rw [if_pos rfl] at H; exact H
   clear H
   have H := H1
   clear H1
   by_cases c11 : t438 = t445
   ·rw [if_pos c11] at H
    have c11b0 : (t438 == t445) = true := beq_iff_eq.mpr c11
    have c11b1 : (t438 != t445) = false := bne_eq_false_iff_eq.mpr c11
    clear c11
    replace H := Option.bind_eq_some_iff.mp H
    obtain ⟨t462, A120, H⟩ := H
    replace H : (if t462 = true then (if t452 = t459 then ((ineq_Same.f k a0_0 l0_1 a0_2 a1_0 l1_1 a1_2).bind fun t463 => ((sequiturbase_Ineq.f k a0_0 l0_1 a0_2 a1_0 l1_1 a1_2).bind fun t464 => (if (t463 == t464) = true then ((ineq_Same.f k a0_0 l0_1 a0_2 a0_0 l0_1 a0_2).bind fun t465 => (if t465 = true then ((sequiturlaw28_goes.f k).bind fun t466 => (some t466)) else (none))) else (none)))) else (none)) else (none)) = some r := H
    have A12 := zK A120
    clear A120
    by_cases c13 : t462 = true
    ·subst c13
     have H1 : (if t452 = t459 then ((ineq_Same.f k a0_0 l0_1 a0_2 a1_0 l1_1 a1_2).bind fun t463 => ((sequiturbase_Ineq.f k a0_0 l0_1 a0_2 a1_0 l1_1 a1_2).bind fun t464 => (if (t463 == t464) = true then ((ineq_Same.f k a0_0 l0_1 a0_2 a0_0 l0_1 a0_2).bind fun t465 => (if t465 = true then ((sequiturlaw28_goes.f k).bind fun t466 => (some t466)) else (none))) else (none)))) else (none)) = some r := by rw [if_pos rfl] at H; exact H
     clear H
     have H := H1
     clear H1
     by_cases c14 : t452 = t459
     ·rw [if_pos c14] at H
      have c14b0 : (t452 == t459) = true := beq_iff_eq.mpr c14
      have c14b1 : (t452 != t459) = false := bne_eq_false_iff_eq.mpr c14
      clear c14
      replace H := Option.bind_eq_some_iff.mp H
      obtain ⟨t463, A150, H⟩ := H
      replace H : ((sequiturbase_Ineq.f k a0_0 l0_1 a0_2 a1_0 l1_1 a1_2).bind fun t464 => (if (t463 == t464) = true then ((ineq_Same.f k a0_0 l0_1 a0_2 a0_0 l0_1 a0_2).bind fun t465 => (if t465 = true then ((sequiturlaw28_goes.f k).bind fun t466 => (some t466)) else (none))) else (none))) = some r := H
      have A15 := zK A150
      clear A150
      replace H := Option.bind_eq_some_iff.mp H
      obtain ⟨t464, A160, H⟩ := H
      replace H : (if (t463 == t464) = true then ((ineq_Same.f k a0_0 l0_1 a0_2 a0_0 l0_1 a0_2).bind fun t465 => (if t465 = true then ((sequiturlaw28_goes.f k).bind fun t466 => (some t466)) else (none))) else (none)) = some r := H
      have A16 := zK A160
      clear A160
      by_cases c17 : (t463 == t464) = true
      ·rw [if_pos c17] at H
       have c17b0 : (t463 == t464) = true := c17
       (try (have c17b1 : decide (t463 = t464) = true := by simpa using c17))
       (try (have c17b2 : (t463 == t464) = true := by simpa using c17))
       clear c17
       replace H := Option.bind_eq_some_iff.mp H
       obtain ⟨t465, A180, H⟩ := H
       replace H : (if t465 = true then ((sequiturlaw28_goes.f k).bind fun t466 => (some t466)) else (none)) = some r := H
       have A18 := zK A180
       clear A180
       by_cases c19 : t465 = true
       ·subst c19
        have H1 : ((sequiturlaw28_goes.f k).bind fun t466 => (some t466)) = some r := by rw [if_pos rfl] at H; exact H
        clear H
        have H := H1
        clear H1
        replace H := Option.bind_eq_some_iff.mp H
        obtain ⟨t466, A200, H⟩ := H
        replace H : (some t466) = some r := H
        have A20 := zK A200
        clear A200
        obtain rfl := Option.some.inj H
        go_enter Try.func6, Try.ntmps6
        try go_wp2_with (first | ((with_reducible refine gate_dst (N := 2) rfl ?_); refine box_event ?hg (N := 2) ?hd (cs := #[.int .i64 a0_0, .slice A0_1 l0_1.length c0_1, .bool a0_2]) (t := 30) ?hr ?_; (case hd => rfl); (case hg => rfl); (case hr => first | (go_simp; done) | (go_simp; rfl)); intro gb426 hg w21 hbox hb; replace HO0_1 := zK (Kd.V_below (Kd.V_elderB (zv HO0_1) gb426 (Nat.le_of_eq hg.symm)) hb); replace HO1_1 := zK (Kd.V_below (Kd.V_elderB (zv HO1_1) gb426 (Nat.le_of_eq hg.symm)) hb); have BK426 := zK (hbox); have GW426 := zK ((by rw [hg]; exact (below_size (zo HB)) : w.heap.size ≤ gb426)); have GE426 := zK ((by rw [hg]; exact (below_size (zo HB)) : w.heap.size ≤ gb426)); replace HB := zK (below_step (zo HB) hb); clear hb hbox hg) | ((with_reducible refine gate_dst (N := 3) rfl ?_); refine box_event ?hg (N := 3) ?hd (cs := #[.int .i64 a1_0, .slice A1_1 l1_1.length c1_1, .bool a1_2]) (t := 30) ?hr ?_; (case hd => rfl); (case hg => rfl); (case hr => first | (go_simp; done) | (go_simp; rfl)); intro gb427 hg w22 hbox hb; replace HO0_1 := zK (Kd.V_below (Kd.V_elderB (zv HO0_1) gb427 (Nat.le_of_eq hg.symm)) hb); replace HO1_1 := zK (Kd.V_below (Kd.V_elderB (zv HO1_1) gb427 (Nat.le_of_eq hg.symm)) hb); have BK427 := zK (hbox); have GW427 := zK ((by rw [hg]; exact (below_size (zo HB)) : w.heap.size ≤ gb427)); have GE427 := zK ((by rw [hg]; exact (below_size (zo HB)) : w.heap.size ≤ gb427)); replace HB := zK (below_step (zo HB) hb); have NB426_427 := zK ((by rw [hg]; exact Nat.ne_of_lt (blk_lt (g := gb426) (o := .cells #[.int .i64 a0_0, .slice A0_1 l0_1.length c0_1, .bool a0_2] 30 (0, 0)) (zb BK426)) : gb426 ≠ gb427)); have NB427_426 := zK ((by rw [hg]; exact Nat.ne_of_gt (blk_lt (g := gb426) (o := .cells #[.int .i64 a0_0, .slice A0_1 l0_1.length c0_1, .bool a0_2] 30 (0, 0)) (zb BK426)) : gb427 ≠ gb426)); replace BK426 := zK (blk_below (g := gb426) (o := .cells #[.int .i64 a0_0, .slice A0_1 l0_1.length c0_1, .bool a0_2] 30 (0, 0)) (zb BK426) hb); clear hb hbox hg; have hnb23 := NB426_427.out; have hnc23 := NB427_426.out; have hcz24_0 : w22.cell? ⟨gb426, 0, none⟩ = some (.int .i64 a0_0) := (blk_cell BK426.out 0).trans rfl; have hcz24_1 : w22.cell? ⟨gb426, 1, none⟩ = some (.slice A0_1 l0_1.length c0_1) := (blk_cell BK426.out 1).trans rfl; have hcz24_2 : w22.cell? ⟨gb426, 2, none⟩ = some (.bool a0_2) := (blk_cell BK426.out 2).trans rfl; have hfz24_0 := blk_frozen BK426.out 0; have hfz24_1 := blk_frozen BK426.out 1; have hfz24_2 := blk_frozen BK426.out 2; have hcz25_0 : w22.cell? ⟨gb427, 0, none⟩ = some (.int .i64 a1_0) := (blk_cell BK427.out 0).trans rfl; have hcz25_1 : w22.cell? ⟨gb427, 1, none⟩ = some (.slice A1_1 l1_1.length c1_1) := (blk_cell BK427.out 1).trans rfl; have hcz25_2 : w22.cell? ⟨gb427, 2, none⟩ = some (.bool a1_2) := (blk_cell BK427.out 2).trans rfl; have hfz25_0 := blk_frozen BK427.out 0; have hfz25_1 := blk_frozen BK427.out 1; have hfz25_2 := blk_frozen BK427.out 2) | ((with_reducible refine gate_dst (N := 15) rfl ?_); refine Kd.N_lit k30 _ 30 ?hg (N' := 15) ?hd (xs := ([(⟨(⟨a0_0, l0_1⟩ : S28), a0_2⟩ : S30), (⟨(⟨a1_0, l1_1⟩ : S28), a1_2⟩ : S30)] : List (S30))) (inner := [.int .i64 a0_0, .slice A0_1 l0_1.length c0_1, .bool a0_2, .int .i64 a1_0, .slice A1_1 l1_1.length c1_1, .bool a1_2]) (ok := (fun k_ => ((P0_1_ k_ ∨ P1_1_ k_) ∨ w.heap.size ≤ k_) ∧ k_ ≠ gb426 ∧ k_ ≠ gb427)) (okp := (fun k_ => ((P0_1_ k_ ∨ P1_1_ k_) ∨ w.heap.size ≤ k_) ∧ k_ ≠ gb426 ∧ k_ ≠ gb427)) ?hr ?hp (fun _ hk => hk) ((show ∀ k_, w22.heap.size ≤ k_ → (fun k_ => ((P0_1_ k_ ∨ P1_1_ k_) ∨ w.heap.size ≤ k_) ∧ k_ ≠ gb426 ∧ k_ ≠ gb427) k_ from fun k_ hk => ⟨(.inr (Nat.le_trans (below_size (zo HB)) hk)), Kd.freshB (g := gb426) (o := .cells #[.int .i64 a0_0, .slice A0_1 l0_1.length c0_1, .bool a0_2] 30 (0, 0)) (zb BK426) k_ hk, Kd.freshB (g := gb427) (o := .cells #[.int .i64 a1_0, .slice A1_1 l1_1.length c1_1, .bool a1_2] 30 (0, 0)) (zb BK427) k_ hk⟩) _ (Nat.le_refl _)) (Below.refl _ _) (Nat.le_refl _) (by simp) ?_; (case hd => rfl); (case hg => rfl); (case hr => first | (go_simp; done) | (go_simp; rfl)); (case hp => exact (Reps.c3 (show Kd.FK k30 _ _ (⟨(⟨a0_0, l0_1⟩ : S28), a0_2⟩ : S30) [.int .i64 a0_0, .slice A0_1 l0_1.length c0_1, .bool a0_2] from (k30_mkF _ _ (⟨(⟨a0_0, l0_1⟩ : S28), a0_2⟩ : S30) (Kd.V_reads' (vM (ok' := (fun k_ => ((P0_1_ k_ ∨ P1_1_ k_) ∨ w.heap.size ≤ k_) ∧ k_ ≠ gb426 ∧ k_ ≠ gb427)) (HO0_1.out) (fun k_ hk => ⟨hk.1.1, ⟨hk.1.2, hk.2⟩⟩))).2.1 (Kd.V_F (vM (ok' := (fun k_ => ((P0_1_ k_ ∨ P1_1_ k_) ∨ w.heap.size ≤ k_) ∧ k_ ≠ gb426 ∧ k_ ≠ gb427)) (HO0_1.out) (fun k_ hk => ⟨hk.1.1, ⟨hk.1.2, hk.2⟩⟩))))) (Reps.c3 (show Kd.FK k30 _ _ (⟨(⟨a1_0, l1_1⟩ : S28), a1_2⟩ : S30) [.int .i64 a1_0, .slice A1_1 l1_1.length c1_1, .bool a1_2] from (k30_mkF _ _ (⟨(⟨a1_0, l1_1⟩ : S28), a1_2⟩ : S30) (Kd.V_reads' (vM (ok' := (fun k_ => ((P0_1_ k_ ∨ P1_1_ k_) ∨ w.heap.size ≤ k_) ∧ k_ ≠ gb426 ∧ k_ ≠ gb427)) (HO1_1.out) (fun k_ hk => ⟨hk.1.1, ⟨hk.1.2, hk.2⟩⟩))).2.1 (Kd.V_F (vM (ok' := (fun k_ => ((P0_1_ k_ ∨ P1_1_ k_) ∨ w.heap.size ≤ k_) ∧ k_ ≠ gb426 ∧ k_ ≠ gb427)) (HO1_1.out) (fun k_ hk => ⟨hk.1.1, ⟨hk.1.2, hk.2⟩⟩))))) (Reps.none _ _)))); intro v429 w26 ho27 hb hg_ hnew_; clear hg_ hnew_; (first | rw [← Ny428.out] at ho27 | (simp only [Int.reduceToNat] at ho27; rw [← Ny428.out] at ho27)); replace HO0_1 := zK (Kd.V_elder' (zv HO0_1) (Kd.N_base ho27) hb); replace HO1_1 := zK (Kd.V_elder' (zv HO1_1) (Kd.N_base ho27) hb); have HO430 := zK (Kd.N_lower ho27 (below_size (zo HB))); replace BK426 := zK (blk_below (g := gb426) (o := .cells #[.int .i64 a0_0, .slice A0_1 l0_1.length c0_1, .bool a0_2] 30 (0, 0)) (zb BK426) hb); replace BK427 := zK (blk_below (g := gb427) (o := .cells #[.int .i64 a1_0, .slice A1_1 l1_1.length c1_1, .bool a1_2] 30 (0, 0)) (zb BK427) hb); replace HB := zK (below_step (zo HB) hb); clear hb ho27; obtain ⟨Ao28, co28, eo28⟩ := Kd.N_slice HO430.out; subst eo28) | ((with_reducible refine zC (f := 9) rfl ?_); refine goesL_ (some 16) rfl rfl Try.func9 (by kernel_rfl) rfl #[.int .i64 2, .slice Ao28 y428.length co28] rfl (by (try simp only [List.map_toArray, List.map_cons, List.map_nil]); first | done | rfl | (simp only [List.length_drop, List.length_take]; rfl)) ?_; (with_reducible refine (sequiturlaw28_Short.calls k 2 _ _ y428 true _ ?side1 ?side2 A3.out).mono ?_); (case side1 => repeat (first | exact (Kd.N_reads' HO430.out).2.2 | (with_reducible refine cA ?_ _) | (with_reducible refine cN ?_ _) | (with_reducible refine cD ?_))); (case side2 => exact (Kd.N_reads' HO430.out).2.1); rintro e w' ⟨rfl, ⟨nd, rfl⟩⟩; refine ⟨_, rfl, ?_⟩; (try (rw [drewN_self w26]; generalize hq_ : World.drewN w26 _ = w26; have n0_ : Aside0 (Kd.V k47 47 w26 w.heap.size (fun k_ => ((P0_1_ k_ ∨ P1_1_ k_) ∨ w.heap.size ≤ k_) ∧ some k_ ≠ (.slice Ao28 y428.length co28 : Value).ownBlock ∧ k_ ≠ gb426 ∧ k_ ≠ gb427) (.slice A0_1 l0_1.length c0_1) l0_1) := ⟨by rw [← hq_]; exact (by (with_reducible repeat (first | apply vA | apply vN | apply vD)); exact vM HO0_1.out (fun _ hk => ⟨hk.1.1.1, ⟨hk.2, ⟨hk.1.1.2, hk.1.2⟩⟩⟩))⟩; have n1_ : Aside0 (Kd.V k47 47 w26 w.heap.size (fun k_ => ((P0_1_ k_ ∨ P1_1_ k_) ∨ w.heap.size ≤ k_) ∧ some k_ ≠ (.slice Ao28 y428.length co28 : Value).ownBlock ∧ k_ ≠ gb426 ∧ k_ ≠ gb427) (.slice A1_1 l1_1.length c1_1) l1_1) := ⟨by rw [← hq_]; exact (by (with_reducible repeat (first | apply vA | apply vN | apply vD)); exact vM HO1_1.out (fun _ hk => ⟨hk.1.1.1, ⟨hk.2, ⟨hk.1.1.2, hk.1.2⟩⟩⟩))⟩; have n2_ : Aside0 (Kd.N k30 30 w26 w.heap.size (fun k_ => ((P0_1_ k_ ∨ P1_1_ k_) ∨ w.heap.size ≤ k_) ∧ k_ ≠ gb426 ∧ k_ ≠ gb427) (.slice Ao28 y428.length co28) y428) := ⟨by rw [← hq_]; exact (zn HO430)⟩; have n3_ : Aside0 (w26.heap[gb426]? = some (.cells #[.int .i64 a0_0, .slice A0_1 l0_1.length c0_1, .bool a0_2] 30 (0, 0))) := ⟨by rw [← hq_]; exact (zb BK426)⟩; have n4_ : Aside0 (w26.heap[gb427]? = some (.cells #[.int .i64 a1_0, .slice A1_1 l1_1.length c1_1, .bool a1_2] 30 (0, 0))) := ⟨by rw [← hq_]; exact (zb BK427)⟩; have n5_ : Aside0 (Below w.heap.size w w26) := ⟨by rw [← hq_]; exact (zo HB)⟩; clear HO0_1 HO1_1 HO430 BK426 BK427 HB hq_; have HO0_1 := n0_; have HO1_1 := n1_; have HO430 := n2_; have BK426 := n3_; have BK427 := n4_; have HB := n5_; clear n0_ n1_ n2_ n3_ n4_ n5_)); have hcz29_0 : w26.cell? ⟨gb426, 0, none⟩ = some (.int .i64 a0_0) := (blk_cell BK426.out 0).trans rfl; have hcz29_1 : w26.cell? ⟨gb426, 1, none⟩ = some (.slice A0_1 l0_1.length c0_1) := (blk_cell BK426.out 1).trans rfl; have hcz29_2 : w26.cell? ⟨gb426, 2, none⟩ = some (.bool a0_2) := (blk_cell BK426.out 2).trans rfl; have hfz29_0 := blk_frozen BK426.out 0; have hfz29_1 := blk_frozen BK426.out 1; have hfz29_2 := blk_frozen BK426.out 2) | ((with_reducible refine zC (f := 23) rfl ?_); refine goesL_ (some 21) rfl rfl Try.func23 (by kernel_rfl) rfl #[.agg #[.int .i64 a0_0, .slice A0_1 l0_1.length c0_1, .bool a0_2]] rfl (by (try simp only [List.map_toArray, List.map_cons, List.map_nil]); first | done | rfl | (simp only [List.length_drop, List.length_take]; rfl)) ?_; (with_reducible refine (ineq_Not.calls k a0_0 _ _ l0_1 a0_2 t433 t434 t437 t438 _ ?side1 ?side2 A5.out).mono ?_); (case side1 => repeat (first | exact (Kd.V_reads' HO0_1.out).2.2 | (with_reducible refine cA ?_ _) | (with_reducible refine cN ?_ _) | (with_reducible refine cD ?_))); (case side2 => exact (Kd.V_reads' HO0_1.out).2.1); rintro e w30 ⟨v435, rfl, ho0, hb⟩; refine ⟨_, rfl, ?_⟩; replace HO0_1 := zK (Kd.V_elder' (zv HO0_1) (Kd.R_base ho0) hb); replace HO1_1 := zK (Kd.V_elder' (zv HO1_1) (Kd.R_base ho0) hb); replace HO430 := zK (Kd.N_elder' (zn HO430) (Kd.R_base ho0) hb); have HO436 := zK (Kd.R_lower (Kd.R_newM (M := fun k_ => (w.heap.size ≤ k_)) ho0 (below_size (zo HB)) (fun k_ h_ => h_)) (below_size (zo HB))); replace BK426 := zK (blk_below (g := gb426) (o := .cells #[.int .i64 a0_0, .slice A0_1 l0_1.length c0_1, .bool a0_2] 30 (0, 0)) (zb BK426) hb); replace BK427 := zK (blk_below (g := gb427) (o := .cells #[.int .i64 a1_0, .slice A1_1 l1_1.length c1_1, .bool a1_2] 30 (0, 0)) (zb BK427) hb); replace HB := zK (below_step (zo HB) hb); (try clear hb); (try clear hb2); (try clear hk); (try clear hi); (try clear ho0)) | ((with_reducible refine gate_dst (N := 5) rfl ?_); refine box_event ?hg (N := 5) ?hd (cs := #[.int .i64 0, .slice none 0 0, .bool false]) (t := 30) ?hr ?_; (case hd => rfl); (case hg => rfl); (case hr => first | (go_simp; done) | (go_simp; rfl)); intro gb439 hg w31 hbox hb; replace HO0_1 := zK (Kd.V_below (Kd.V_elderB (zv HO0_1) gb439 (Nat.le_of_eq hg.symm)) hb); replace HO1_1 := zK (Kd.V_below (Kd.V_elderB (zv HO1_1) gb439 (Nat.le_of_eq hg.symm)) hb); replace HO430 := zK (Kd.N_below (Kd.N_elderB (zn HO430) gb439 (Nat.le_of_eq hg.symm)) hb); replace HO436 := zK (Kd.R_below (zr HO436) hb); have BK439 := zK (hbox); have GW439 := zK ((by rw [hg]; exact (below_size (zo HB)) : w.heap.size ≤ gb439)); have GE439 := zK ((by rw [hg]; exact (below_size (zo HB)) : w.heap.size ≤ gb439)); replace HB := zK (below_step (zo HB) hb); have NB426_439 := zK ((by rw [hg]; exact Nat.ne_of_lt (blk_lt (g := gb426) (o := .cells #[.int .i64 a0_0, .slice A0_1 l0_1.length c0_1, .bool a0_2] 30 (0, 0)) (zb BK426)) : gb426 ≠ gb439)); have NB439_426 := zK ((by rw [hg]; exact Nat.ne_of_gt (blk_lt (g := gb426) (o := .cells #[.int .i64 a0_0, .slice A0_1 l0_1.length c0_1, .bool a0_2] 30 (0, 0)) (zb BK426)) : gb439 ≠ gb426)); replace BK426 := zK (blk_below (g := gb426) (o := .cells #[.int .i64 a0_0, .slice A0_1 l0_1.length c0_1, .bool a0_2] 30 (0, 0)) (zb BK426) hb); have NB427_439 := zK ((by rw [hg]; exact Nat.ne_of_lt (blk_lt (g := gb427) (o := .cells #[.int .i64 a1_0, .slice A1_1 l1_1.length c1_1, .bool a1_2] 30 (0, 0)) (zb BK427)) : gb427 ≠ gb439)); have NB439_427 := zK ((by rw [hg]; exact Nat.ne_of_gt (blk_lt (g := gb427) (o := .cells #[.int .i64 a1_0, .slice A1_1 l1_1.length c1_1, .bool a1_2] 30 (0, 0)) (zb BK427)) : gb439 ≠ gb427)); replace BK427 := zK (blk_below (g := gb427) (o := .cells #[.int .i64 a1_0, .slice A1_1 l1_1.length c1_1, .bool a1_2] 30 (0, 0)) (zb BK427) hb); clear hb hbox hg; have hnb32 := NB439_426.out; have hnc32 := NB426_439.out; have hnb33 := NB439_427.out; have hnc33 := NB427_439.out; have hcz34_0 : w31.cell? ⟨gb439, 0, none⟩ = some (.int .i64 0) := (blk_cell BK439.out 0).trans rfl; have hcz34_1 : w31.cell? ⟨gb439, 1, none⟩ = some (.slice none 0 0) := (blk_cell BK439.out 1).trans rfl; have hcz34_2 : w31.cell? ⟨gb439, 2, none⟩ = some (.bool false) := (blk_cell BK439.out 2).trans rfl; have hfz34_0 := blk_frozen BK439.out 0; have hfz34_1 := blk_frozen BK439.out 1; have hfz34_2 := blk_frozen BK439.out 2; obtain ⟨Ao35, co35, eo35⟩ := Kd.R_slice HO436.out; subst eo35) | ((with_reducible refine gate_store (t := 30) (p := 5) rfl ?_); refine store_event (t := 30) (p := 5) (v := ?vo_w36) (w1 := (((w31.setCell ⟨gb439, 0, none⟩ (.int .i64 t433)).setCell ⟨gb439, 1, none⟩ (.slice Ao35 t434.length co35)).setCell ⟨gb439, 2, none⟩ (.bool t437))) ?hg ?ho ?hn ?hr ?_; (case ho => rfl); (case hg => rfl); (case hn => rfl); (case hr => first | (go_simp; done) | (go_simp; rfl)); intro w36 hw; have n0_ : Aside0 (Kd.V k47 47 w36 w.heap.size (fun k_ => ((P0_1_ k_ ∨ P1_1_ k_) ∨ w.heap.size ≤ k_) ∧ some k_ ≠ (.slice Ao28 y428.length co28 : Value).ownBlock ∧ some k_ ≠ (.slice Ao35 t434.length co35 : Value).ownBlock ∧ k_ ≠ gb426 ∧ k_ ≠ gb427 ∧ k_ ≠ gb439) (.slice A0_1 l0_1.length c0_1) l0_1) := ⟨(by rw [hw]; exact (by (with_reducible repeat (first | apply vA | apply vN | apply vD)); exact vM (vF (p := ⟨gb439, 2, none⟩) (vF (p := ⟨gb439, 1, none⟩) (vF (p := ⟨gb439, 0, none⟩) (vM HO0_1.out (fun k_ hk => (⟨hk, hk.2⟩ : _ ∧ k_ ≠ gb439))) (fun _ hk => hk.2) (.int .i64 t433)) (fun _ hk => hk.2) (.slice Ao35 t434.length co35)) (fun _ hk => hk.2) (.bool t437)) (fun _ hk => ⟨hk.1.1.1.1, ⟨hk.1.1.1.2.1, ⟨hk.1.1.2, ⟨hk.1.1.1.2.2.1, ⟨hk.1.1.1.2.2.2, hk.1.2⟩⟩⟩⟩⟩)))⟩; have n1_ : Aside0 (Kd.V k47 47 w36 w.heap.size (fun k_ => ((P0_1_ k_ ∨ P1_1_ k_) ∨ w.heap.size ≤ k_) ∧ some k_ ≠ (.slice Ao28 y428.length co28 : Value).ownBlock ∧ some k_ ≠ (.slice Ao35 t434.length co35 : Value).ownBlock ∧ k_ ≠ gb426 ∧ k_ ≠ gb427 ∧ k_ ≠ gb439) (.slice A1_1 l1_1.length c1_1) l1_1) := ⟨(by rw [hw]; exact (by (with_reducible repeat (first | apply vA | apply vN | apply vD)); exact vM (vF (p := ⟨gb439, 2, none⟩) (vF (p := ⟨gb439, 1, none⟩) (vF (p := ⟨gb439, 0, none⟩) (vM HO1_1.out (fun k_ hk => (⟨hk, hk.2⟩ : _ ∧ k_ ≠ gb439))) (fun _ hk => hk.2) (.int .i64 t433)) (fun _ hk => hk.2) (.slice Ao35 t434.length co35)) (fun _ hk => hk.2) (.bool t437)) (fun _ hk => ⟨hk.1.1.1.1, ⟨hk.1.1.1.2.1, ⟨hk.1.1.2, ⟨hk.1.1.1.2.2.1, ⟨hk.1.1.1.2.2.2, hk.1.2⟩⟩⟩⟩⟩)))⟩; have n2_ : Aside0 (Kd.N k30 30 w36 w.heap.size (fun k_ => ((P0_1_ k_ ∨ P1_1_ k_) ∨ w.heap.size ≤ k_) ∧ some k_ ≠ (.slice Ao35 t434.length co35 : Value).ownBlock ∧ k_ ≠ gb426 ∧ k_ ≠ gb427 ∧ k_ ≠ gb439) (.slice Ao28 y428.length co28) y428) := ⟨(by rw [hw]; exact (by (with_reducible repeat (first | apply nA | apply nN | apply nD)); exact Kd.N_mono (Kd.N_far (p := ⟨gb439, 2, none⟩) (Kd.N_far (p := ⟨gb439, 1, none⟩) (Kd.N_far (p := ⟨gb439, 0, none⟩) (Kd.N_mono HO430.out (fun k_ hk => (⟨hk, hk.2⟩ : _ ∧ k_ ≠ gb439))) (fun _ hk => hk.2) (.int .i64 t433)) (fun _ hk => hk.2) (.slice Ao35 t434.length co35)) (fun _ hk => hk.2) (.bool t437)) (fun _ hk => ⟨hk.1.1.1.1, ⟨hk.1.1.2, ⟨hk.1.1.1.2.1, ⟨hk.1.1.1.2.2, hk.1.2⟩⟩⟩⟩)))⟩; have n3_ : Aside0 (Kd.R k47 47 w36 w.heap.size (fun k_ => (w.heap.size ≤ k_)) (.slice Ao35 t434.length co35) t434) := ⟨(by rw [hw]; exact (by (with_reducible repeat (first | apply Kd.R_alloc | apply Kd.R_drewN | apply Kd.R_drew)); exact Kd.R_mono (Kd.R_far (p := ⟨gb439, 2, none⟩) (Kd.R_far (p := ⟨gb439, 1, none⟩) (Kd.R_far (p := ⟨gb439, 0, none⟩) (Kd.R_types HO436.out BK439.out (by decide)) (fun _ hk => hk.2) (.int .i64 t433)) (fun _ hk => hk.2) (.slice Ao35 t434.length co35)) (fun _ hk => hk.2) (.bool t437)) (fun _ hk => hk.1.1)))⟩; have n4_ : Aside0 (w36.heap[gb426]? = some (.cells #[.int .i64 a0_0, .slice A0_1 l0_1.length c0_1, .bool a0_2] 30 (0, 0))) := ⟨(by rw [hw]; exact (zb BK426))⟩; have n5_ : Aside0 (w36.heap[gb427]? = some (.cells #[.int .i64 a1_0, .slice A1_1 l1_1.length c1_1, .bool a1_2] 30 (0, 0))) := ⟨(by rw [hw]; exact (zb BK427))⟩; have n6_ : Aside0 (w36.heap[gb439]? = some (.cells #[.int .i64 t433, .slice Ao35 t434.length co35, .bool t437] 30 (0, 0))) := ⟨(by rw [hw]; exact (by refine zM ?_; refine blk_put (cs := #[.int .i64 t433, .slice Ao35 t434.length co35, .bool false]) ?_ 2 _ rfl; refine zM ?_; refine blk_put (cs := #[.int .i64 t433, .slice none 0 0, .bool false]) ?_ 1 _ rfl; refine zM ?_; refine blk_put (cs := #[.int .i64 0, .slice none 0 0, .bool false]) ?_ 0 _ rfl; refine zM ?_; exact BK439.out))⟩; have n7_ : Aside0 (Below w.heap.size w w36) := ⟨(by rw [hw]; exact (zo HB))⟩; clear hw HO0_1 HO1_1 HO430 HO436 BK426 BK427 BK439 HB; have HO0_1 := n0_; have HO1_1 := n1_; have HO430 := n2_; have HO436 := n3_; have BK426 := n4_; have BK427 := n5_; have BK439 := n6_; have HB := n7_; clear n0_ n1_ n2_ n3_ n4_ n5_ n6_ n7_; have hcz37_0 : w36.cell? ⟨gb426, 0, none⟩ = some (.int .i64 a0_0) := (blk_cell BK426.out 0).trans rfl; have hcz37_1 : w36.cell? ⟨gb426, 1, none⟩ = some (.slice A0_1 l0_1.length c0_1) := (blk_cell BK426.out 1).trans rfl; have hcz37_2 : w36.cell? ⟨gb426, 2, none⟩ = some (.bool a0_2) := (blk_cell BK426.out 2).trans rfl; have hfz37_0 := blk_frozen BK426.out 0; have hfz37_1 := blk_frozen BK426.out 1; have hfz37_2 := blk_frozen BK426.out 2) | ((with_reducible refine zC (f := 24) rfl ?_); refine goesL_ (some 26) rfl rfl Try.func24 (by kernel_rfl) rfl #[.agg #[.int .i64 a0_0, .slice A0_1 l0_1.length c0_1, .bool a0_2]] rfl (by (try simp only [List.map_toArray, List.map_cons, List.map_nil]); first | done | rfl | (simp only [List.length_drop, List.length_take]; rfl)) ?_; (with_reducible refine (sequiturref28_Not.calls k a0_0 (fun k_ => (((P0_1_ k_ ∨ P1_1_ k_) ∨ w.heap.size ≤ k_) ∧ (some k_ ≠ (.slice Ao28 y428.length co28 : Value).ownBlock ∧ (some k_ ≠ (.slice Ao35 t434.length co35 : Value).ownBlock ∧ (k_ ≠ gb426 ∧ (k_ ≠ gb427 ∧ k_ ≠ gb439)))))) _ _ l0_1 a0_2 t440 t441 t444 t445 _ ?side1 A6.out).mono ?_); (case side1 => exact HO0_1.out); rintro e w38 ⟨v442, rfl, ho0, hb⟩; refine ⟨_, rfl, ?_⟩; replace HO0_1 := zK (Kd.V_elder' (zv HO0_1) (Kd.R_base ho0) hb); replace HO1_1 := zK (Kd.V_elder' (zv HO1_1) (Kd.R_base ho0) hb); replace HO430 := zK (Kd.N_elder' (zn HO430) (Kd.R_base ho0) hb); have HO443 := zK (Kd.R_lower (Kd.R_new' (Kd.R_newM (M := fun k_ => (w.heap.size ≤ k_)) (Kd.R_mono (ok' := fun k_ => True) ho0 (fun _ hk_ => trivial)) (below_size (zo HB)) (fun k_ h_ => h_)) (Kd.R_lt (zr HO436))) (below_size (zo HB))); replace HO436 := zK (Kd.R_elder' (zr HO436) (Kd.R_base ho0) hb); replace BK426 := zK (blk_below (g := gb426) (o := .cells #[.int .i64 a0_0, .slice A0_1 l0_1.length c0_1, .bool a0_2] 30 (0, 0)) (zb BK426) hb); replace BK427 := zK (blk_below (g := gb427) (o := .cells #[.int .i64 a1_0, .slice A1_1 l1_1.length c1_1, .bool a1_2] 30 (0, 0)) (zb BK427) hb); replace BK439 := zK (blk_below (g := gb439) (o := .cells #[.int .i64 t433, .slice Ao35 t434.length co35, .bool t437] 30 (0, 0)) (zb BK439) hb); replace HB := zK (below_step (zo HB) hb); (try clear hb); (try clear hb2); (try clear hk); (try clear hi); (try clear ho0)) | ((with_reducible refine gate_dst (N := 7) rfl ?_); refine box_event ?hg (N := 7) ?hd (cs := #[.int .i64 0, .slice none 0 0, .bool false]) (t := 30) ?hr ?_; (case hd => rfl); (case hg => rfl); (case hr => first | (go_simp; done) | (go_simp; rfl)); intro gb446 hg w39 hbox hb; replace HO0_1 := zK (Kd.V_below (Kd.V_elderB (zv HO0_1) gb446 (Nat.le_of_eq hg.symm)) hb); replace HO1_1 := zK (Kd.V_below (Kd.V_elderB (zv HO1_1) gb446 (Nat.le_of_eq hg.symm)) hb); replace HO430 := zK (Kd.N_below (Kd.N_elderB (zn HO430) gb446 (Nat.le_of_eq hg.symm)) hb); replace HO436 := zK (Kd.R_below (zr HO436) hb); replace HO443 := zK (Kd.R_below (zr HO443) hb); have BK446 := zK (hbox); have GW446 := zK ((by rw [hg]; exact (below_size (zo HB)) : w.heap.size ≤ gb446)); have GE446 := zK ((by rw [hg]; exact (below_size (zo HB)) : w.heap.size ≤ gb446)); replace HB := zK (below_step (zo HB) hb); have NB426_446 := zK ((by rw [hg]; exact Nat.ne_of_lt (blk_lt (g := gb426) (o := .cells #[.int .i64 a0_0, .slice A0_1 l0_1.length c0_1, .bool a0_2] 30 (0, 0)) (zb BK426)) : gb426 ≠ gb446)); have NB446_426 := zK ((by rw [hg]; exact Nat.ne_of_gt (blk_lt (g := gb426) (o := .cells #[.int .i64 a0_0, .slice A0_1 l0_1.length c0_1, .bool a0_2] 30 (0, 0)) (zb BK426)) : gb446 ≠ gb426)); replace BK426 := zK (blk_below (g := gb426) (o := .cells #[.int .i64 a0_0, .slice A0_1 l0_1.length c0_1, .bool a0_2] 30 (0, 0)) (zb BK426) hb); have NB427_446 := zK ((by rw [hg]; exact Nat.ne_of_lt (blk_lt (g := gb427) (o := .cells #[.int .i64 a1_0, .slice A1_1 l1_1.length c1_1, .bool a1_2] 30 (0, 0)) (zb BK427)) : gb427 ≠ gb446)); have NB446_427 := zK ((by rw [hg]; exact Nat.ne_of_gt (blk_lt (g := gb427) (o := .cells #[.int .i64 a1_0, .slice A1_1 l1_1.length c1_1, .bool a1_2] 30 (0, 0)) (zb BK427)) : gb446 ≠ gb427)); replace BK427 := zK (blk_below (g := gb427) (o := .cells #[.int .i64 a1_0, .slice A1_1 l1_1.length c1_1, .bool a1_2] 30 (0, 0)) (zb BK427) hb); have NB439_446 := zK ((by rw [hg]; exact Nat.ne_of_lt (blk_lt (g := gb439) (o := .cells #[.int .i64 t433, .slice Ao35 t434.length co35, .bool t437] 30 (0, 0)) (zb BK439)) : gb439 ≠ gb446)); have NB446_439 := zK ((by rw [hg]; exact Nat.ne_of_gt (blk_lt (g := gb439) (o := .cells #[.int .i64 t433, .slice Ao35 t434.length co35, .bool t437] 30 (0, 0)) (zb BK439)) : gb446 ≠ gb439)); replace BK439 := zK (blk_below (g := gb439) (o := .cells #[.int .i64 t433, .slice Ao35 t434.length co35, .bool t437] 30 (0, 0)) (zb BK439) hb); clear hb hbox hg; have hnb40 := NB446_426.out; have hnc40 := NB426_446.out; have hnb41 := NB446_427.out; have hnc41 := NB427_446.out; have hnb42 := NB446_439.out; have hnc42 := NB439_446.out; have hcz43_0 : w39.cell? ⟨gb446, 0, none⟩ = some (.int .i64 0) := (blk_cell BK446.out 0).trans rfl; have hcz43_1 : w39.cell? ⟨gb446, 1, none⟩ = some (.slice none 0 0) := (blk_cell BK446.out 1).trans rfl; have hcz43_2 : w39.cell? ⟨gb446, 2, none⟩ = some (.bool false) := (blk_cell BK446.out 2).trans rfl; have hfz43_0 := blk_frozen BK446.out 0; have hfz43_1 := blk_frozen BK446.out 1; have hfz43_2 := blk_frozen BK446.out 2; obtain ⟨Ao44, co44, eo44⟩ := Kd.R_slice HO443.out; subst eo44; have hcz45_0 : w39.cell? ⟨gb426, 0, none⟩ = some (.int .i64 a0_0) := (blk_cell BK426.out 0).trans rfl; have hcz45_1 : w39.cell? ⟨gb426, 1, none⟩ = some (.slice A0_1 l0_1.length c0_1) := (blk_cell BK426.out 1).trans rfl; have hcz45_2 : w39.cell? ⟨gb426, 2, none⟩ = some (.bool a0_2) := (blk_cell BK426.out 2).trans rfl; have hfz45_0 := blk_frozen BK426.out 0; have hfz45_1 := blk_frozen BK426.out 1; have hfz45_2 := blk_frozen BK426.out 2) | ((with_reducible refine zC (f := 15) rfl ?_); refine goesL_ (some 31) rfl rfl Try.func15 (by kernel_rfl) rfl #[.agg #[.int .i64 a0_0, .slice A0_1 l0_1.length c0_1, .bool a0_2]] rfl (by (try simp only [List.map_toArray, List.map_cons, List.map_nil]); first | done | rfl | (simp only [List.length_drop, List.length_take]; rfl)) ?_; (with_reducible refine (ineq_Tight.calls k a0_0 _ _ l0_1 a0_2 t447 t448 t451 t452 _ ?side1 ?side2 A7.out).mono ?_); (case side1 => exact (Kd.V_reads' (vF (p := ⟨gb446, 2, none⟩) (vF (p := ⟨gb446, 1, none⟩) (vF (p := ⟨gb446, 0, none⟩) (vM HO0_1.out (fun k_ hk => (⟨hk, hk.2⟩ : _ ∧ k_ ≠ gb446))) (fun _ hk => hk.2) (.int .i64 t440)) (fun _ hk => hk.2) (.slice Ao44 t441.length co44)) (fun _ hk => hk.2) (.bool t444))).2.2); (case side2 => exact (Kd.V_reads' HO0_1.out).2.1); rintro e w46 ⟨v449, rfl, ho0, hb⟩; refine ⟨_, rfl, ?_⟩; replace HO0_1 := zK (Kd.V_elder' (by (with_reducible repeat (first | apply vA | apply vN | apply vD)); exact (vM (vF (p := ⟨gb446, 2, none⟩) (vF (p := ⟨gb446, 1, none⟩) (vF (p := ⟨gb446, 0, none⟩) (vM HO0_1.out (fun k_ hk => (⟨hk, hk.2⟩ : _ ∧ k_ ≠ gb446))) (fun _ hk => hk.2) (.int .i64 t440)) (fun _ hk => hk.2) (.slice Ao44 t441.length co44)) (fun _ hk => hk.2) (.bool t444)) (fun _ h_ => h_.1))) (Kd.R_base ho0) hb); replace HO1_1 := zK (Kd.V_elder' (by (with_reducible repeat (first | apply vA | apply vN | apply vD)); exact (vM (vF (p := ⟨gb446, 2, none⟩) (vF (p := ⟨gb446, 1, none⟩) (vF (p := ⟨gb446, 0, none⟩) (vM HO1_1.out (fun k_ hk => (⟨hk, hk.2⟩ : _ ∧ k_ ≠ gb446))) (fun _ hk => hk.2) (.int .i64 t440)) (fun _ hk => hk.2) (.slice Ao44 t441.length co44)) (fun _ hk => hk.2) (.bool t444)) (fun _ h_ => h_.1))) (Kd.R_base ho0) hb); replace HO430 := zK (Kd.N_elder' (by (with_reducible repeat (first | apply nA | apply nN | apply nD)); exact (Kd.N_mono (Kd.N_far (p := ⟨gb446, 2, none⟩) (Kd.N_far (p := ⟨gb446, 1, none⟩) (Kd.N_far (p := ⟨gb446, 0, none⟩) (Kd.N_mono HO430.out (fun k_ hk => (⟨hk, hk.2⟩ : _ ∧ k_ ≠ gb446))) (fun _ hk => hk.2) (.int .i64 t440)) (fun _ hk => hk.2) (.slice Ao44 t441.length co44)) (fun _ hk => hk.2) (.bool t444)) (fun _ h_ => h_.1))) (Kd.R_base ho0) hb); have HO450 := zK (Kd.R_lower (Kd.R_new' (Kd.R_new' (Kd.R_newM (M := fun k_ => (w.heap.size ≤ k_)) ho0 (below_size (zo HB)) (fun k_ h_ => h_)) (Kd.R_lt (by (with_reducible repeat (first | apply Kd.R_alloc | apply Kd.R_drewN | apply Kd.R_drew)); exact (Kd.R_mono (Kd.R_far (p := ⟨gb446, 2, none⟩) (Kd.R_far (p := ⟨gb446, 1, none⟩) (Kd.R_far (p := ⟨gb446, 0, none⟩) (Kd.R_types HO436.out BK446.out (by decide)) (fun _ hk => hk.2) (.int .i64 t440)) (fun _ hk => hk.2) (.slice Ao44 t441.length co44)) (fun _ hk => hk.2) (.bool t444)) (fun _ h_ => h_.1))))) (Kd.R_lt (by (with_reducible repeat (first | apply Kd.R_alloc | apply Kd.R_drewN | apply Kd.R_drew)); exact (Kd.R_mono (Kd.R_far (p := ⟨gb446, 2, none⟩) (Kd.R_far (p := ⟨gb446, 1, none⟩) (Kd.R_far (p := ⟨gb446, 0, none⟩) (Kd.R_types HO443.out BK446.out (by decide)) (fun _ hk => hk.2) (.int .i64 t440)) (fun _ hk => hk.2) (.slice Ao44 t441.length co44)) (fun _ hk => hk.2) (.bool t444)) (fun _ h_ => h_.1))))) (below_size (zo HB))); replace HO436 := zK (Kd.R_elder' (by (with_reducible repeat (first | apply Kd.R_alloc | apply Kd.R_drewN | apply Kd.R_drew)); exact (Kd.R_mono (Kd.R_far (p := ⟨gb446, 2, none⟩) (Kd.R_far (p := ⟨gb446, 1, none⟩) (Kd.R_far (p := ⟨gb446, 0, none⟩) (Kd.R_types HO436.out BK446.out (by decide)) (fun _ hk => hk.2) (.int .i64 t440)) (fun _ hk => hk.2) (.slice Ao44 t441.length co44)) (fun _ hk => hk.2) (.bool t444)) (fun _ h_ => h_.1))) (Kd.R_base ho0) hb); replace HO443 := zK (Kd.R_elder' (by (with_reducible repeat (first | apply Kd.R_alloc | apply Kd.R_drewN | apply Kd.R_drew)); exact (Kd.R_mono (Kd.R_far (p := ⟨gb446, 2, none⟩) (Kd.R_far (p := ⟨gb446, 1, none⟩) (Kd.R_far (p := ⟨gb446, 0, none⟩) (Kd.R_types HO443.out BK446.out (by decide)) (fun _ hk => hk.2) (.int .i64 t440)) (fun _ hk => hk.2) (.slice Ao44 t441.length co44)) (fun _ hk => hk.2) (.bool t444)) (fun _ h_ => h_.1))) (Kd.R_base ho0) hb); replace BK426 := zK (blk_below (g := gb426) (o := .cells #[.int .i64 a0_0, .slice A0_1 l0_1.length c0_1, .bool a0_2] 30 (0, 0)) (zb BK426) hb); replace BK427 := zK (blk_below (g := gb427) (o := .cells #[.int .i64 a1_0, .slice A1_1 l1_1.length c1_1, .bool a1_2] 30 (0, 0)) (zb BK427) hb); replace BK439 := zK (blk_below (g := gb439) (o := .cells #[.int .i64 t433, .slice Ao35 t434.length co35, .bool t437] 30 (0, 0)) (zb BK439) hb); replace BK446 := zK (blk_below (g := gb446) (o := .cells #[.int .i64 t440, .slice Ao44 t441.length co44, .bool t444] 30 (0, 0)) (by refine zM ?_; refine blk_put (cs := #[.int .i64 t440, .slice Ao44 t441.length co44, .bool false]) ?_ 2 _ rfl; refine zM ?_; refine blk_put (cs := #[.int .i64 t440, .slice none 0 0, .bool false]) ?_ 1 _ rfl; refine zM ?_; refine blk_put (cs := #[.int .i64 0, .slice none 0 0, .bool false]) ?_ 0 _ rfl; refine zM ?_; exact BK446.out) hb); replace HB := zK (below_step (zo HB) hb); (try clear hb); (try clear hb2); (try clear hk); (try clear hi); (try clear ho0)) | ((with_reducible refine gate_dst (N := 9) rfl ?_); refine box_event ?hg (N := 9) ?hd (cs := #[.int .i64 0, .slice none 0 0, .bool false]) (t := 30) ?hr ?_; (case hd => rfl); (case hg => rfl); (case hr => first | (go_simp; done) | (go_simp; rfl)); intro gb453 hg w47 hbox hb; replace HO0_1 := zK (Kd.V_below (Kd.V_elderB (zv HO0_1) gb453 (Nat.le_of_eq hg.symm)) hb); replace HO1_1 := zK (Kd.V_below (Kd.V_elderB (zv HO1_1) gb453 (Nat.le_of_eq hg.symm)) hb); replace HO430 := zK (Kd.N_below (Kd.N_elderB (zn HO430) gb453 (Nat.le_of_eq hg.symm)) hb); replace HO436 := zK (Kd.R_below (zr HO436) hb); replace HO443 := zK (Kd.R_below (zr HO443) hb); replace HO450 := zK (Kd.R_below (zr HO450) hb); have BK453 := zK (hbox); have GW453 := zK ((by rw [hg]; exact (below_size (zo HB)) : w.heap.size ≤ gb453)); have GE453 := zK ((by rw [hg]; exact (below_size (zo HB)) : w.heap.size ≤ gb453)); replace HB := zK (below_step (zo HB) hb); have NB426_453 := zK ((by rw [hg]; exact Nat.ne_of_lt (blk_lt (g := gb426) (o := .cells #[.int .i64 a0_0, .slice A0_1 l0_1.length c0_1, .bool a0_2] 30 (0, 0)) (zb BK426)) : gb426 ≠ gb453)); have NB453_426 := zK ((by rw [hg]; exact Nat.ne_of_gt (blk_lt (g := gb426) (o := .cells #[.int .i64 a0_0, .slice A0_1 l0_1.length c0_1, .bool a0_2] 30 (0, 0)) (zb BK426)) : gb453 ≠ gb426)); replace BK426 := zK (blk_below (g := gb426) (o := .cells #[.int .i64 a0_0, .slice A0_1 l0_1.length c0_1, .bool a0_2] 30 (0, 0)) (zb BK426) hb); have NB427_453 := zK ((by rw [hg]; exact Nat.ne_of_lt (blk_lt (g := gb427) (o := .cells #[.int .i64 a1_0, .slice A1_1 l1_1.length c1_1, .bool a1_2] 30 (0, 0)) (zb BK427)) : gb427 ≠ gb453)); have NB453_427 := zK ((by rw [hg]; exact Nat.ne_of_gt (blk_lt (g := gb427) (o := .cells #[.int .i64 a1_0, .slice A1_1 l1_1.length c1_1, .bool a1_2] 30 (0, 0)) (zb BK427)) : gb453 ≠ gb427)); replace BK427 := zK (blk_below (g := gb427) (o := .cells #[.int .i64 a1_0, .slice A1_1 l1_1.length c1_1, .bool a1_2] 30 (0, 0)) (zb BK427) hb); have NB439_453 := zK ((by rw [hg]; exact Nat.ne_of_lt (blk_lt (g := gb439) (o := .cells #[.int .i64 t433, .slice Ao35 t434.length co35, .bool t437] 30 (0, 0)) (zb BK439)) : gb439 ≠ gb453)); have NB453_439 := zK ((by rw [hg]; exact Nat.ne_of_gt (blk_lt (g := gb439) (o := .cells #[.int .i64 t433, .slice Ao35 t434.length co35, .bool t437] 30 (0, 0)) (zb BK439)) : gb453 ≠ gb439)); replace BK439 := zK (blk_below (g := gb439) (o := .cells #[.int .i64 t433, .slice Ao35 t434.length co35, .bool t437] 30 (0, 0)) (zb BK439) hb); have NB446_453 := zK ((by rw [hg]; exact Nat.ne_of_lt (blk_lt (g := gb446) (o := .cells #[.int .i64 t440, .slice Ao44 t441.length co44, .bool t444] 30 (0, 0)) (zb BK446)) : gb446 ≠ gb453)); have NB453_446 := zK ((by rw [hg]; exact Nat.ne_of_gt (blk_lt (g := gb446) (o := .cells #[.int .i64 t440, .slice Ao44 t441.length co44, .bool t444] 30 (0, 0)) (zb BK446)) : gb453 ≠ gb446)); replace BK446 := zK (blk_below (g := gb446) (o := .cells #[.int .i64 t440, .slice Ao44 t441.length co44, .bool t444] 30 (0, 0)) (zb BK446) hb); clear hb hbox hg; have hnb48 := NB453_426.out; have hnc48 := NB426_453.out; have hnb49 := NB453_427.out; have hnc49 := NB427_453.out; have hnb50 := NB453_439.out; have hnc50 := NB439_453.out; have hnb51 := NB453_446.out; have hnc51 := NB446_453.out; have hcz52_0 : w47.cell? ⟨gb453, 0, none⟩ = some (.int .i64 0) := (blk_cell BK453.out 0).trans rfl; have hcz52_1 : w47.cell? ⟨gb453, 1, none⟩ = some (.slice none 0 0) := (blk_cell BK453.out 1).trans rfl; have hcz52_2 : w47.cell? ⟨gb453, 2, none⟩ = some (.bool false) := (blk_cell BK453.out 2).trans rfl; have hfz52_0 := blk_frozen BK453.out 0; have hfz52_1 := blk_frozen BK453.out 1; have hfz52_2 := blk_frozen BK453.out 2; obtain ⟨Ao53, co53, eo53⟩ := Kd.R_slice HO450.out; subst eo53; have hcz54_0 : w47.cell? ⟨gb426, 0, none⟩ = some (.int .i64 a0_0) := (blk_cell BK426.out 0).trans rfl; have hcz54_1 : w47.cell? ⟨gb426, 1, none⟩ = some (.slice A0_1 l0_1.length c0_1) := (blk_cell BK426.out 1).trans rfl; have hcz54_2 : w47.cell? ⟨gb426, 2, none⟩ = some (.bool a0_2) := (blk_cell BK426.out 2).trans rfl; have hfz54_0 := blk_frozen BK426.out 0; have hfz54_1 := blk_frozen BK426.out 1; have hfz54_2 := blk_frozen BK426.out 2) | ((with_reducible refine zC (f := 25) rfl ?_); refine goesL_ (some 36) rfl rfl Try.func25 (by kernel_rfl) rfl #[.agg #[.int .i64 a0_0, .slice A0_1 l0_1.length c0_1, .bool a0_2]] rfl (by (try simp only [List.map_toArray, List.map_cons, List.map_nil]); first | done | rfl | (simp only [List.length_drop, List.length_take]; rfl)) ?_; (with_reducible refine (sequiturref28_Tight.calls k a0_0 _ _ l0_1 a0_2 t454 t455 t458 t459 _ ?side1 ?side2 A8.out).mono ?_); (case side1 => exact (Kd.V_reads' (vF (p := ⟨gb453, 2, none⟩) (vF (p := ⟨gb453, 1, none⟩) (vF (p := ⟨gb453, 0, none⟩) (vM HO0_1.out (fun k_ hk => (⟨hk, hk.2⟩ : _ ∧ k_ ≠ gb453))) (fun _ hk => hk.2) (.int .i64 t447)) (fun _ hk => hk.2) (.slice Ao53 t448.length co53)) (fun _ hk => hk.2) (.bool t451))).2.2); (case side2 => exact (Kd.V_reads' HO0_1.out).2.1); rintro e w55 ⟨v456, rfl, ho0, hb⟩; refine ⟨_, rfl, ?_⟩; replace HO0_1 := zK (Kd.V_elder' (by (with_reducible repeat (first | apply vA | apply vN | apply vD)); exact (vM (vF (p := ⟨gb453, 2, none⟩) (vF (p := ⟨gb453, 1, none⟩) (vF (p := ⟨gb453, 0, none⟩) (vM HO0_1.out (fun k_ hk => (⟨hk, hk.2⟩ : _ ∧ k_ ≠ gb453))) (fun _ hk => hk.2) (.int .i64 t447)) (fun _ hk => hk.2) (.slice Ao53 t448.length co53)) (fun _ hk => hk.2) (.bool t451)) (fun _ h_ => h_.1))) (show ∀ k_, (Value.slice none 0 0).ownBlock = some k_ → _ ≤ k_ from fun k_ h_ => by simp [Value.ownBlock] at h_) hb); replace HO1_1 := zK (Kd.V_elder' (by (with_reducible repeat (first | apply vA | apply vN | apply vD)); exact (vM (vF (p := ⟨gb453, 2, none⟩) (vF (p := ⟨gb453, 1, none⟩) (vF (p := ⟨gb453, 0, none⟩) (vM HO1_1.out (fun k_ hk => (⟨hk, hk.2⟩ : _ ∧ k_ ≠ gb453))) (fun _ hk => hk.2) (.int .i64 t447)) (fun _ hk => hk.2) (.slice Ao53 t448.length co53)) (fun _ hk => hk.2) (.bool t451)) (fun _ h_ => h_.1))) (show ∀ k_, (Value.slice none 0 0).ownBlock = some k_ → _ ≤ k_ from fun k_ h_ => by simp [Value.ownBlock] at h_) hb); replace HO430 := zK (Kd.N_elder' (by (with_reducible repeat (first | apply nA | apply nN | apply nD)); exact (Kd.N_mono (Kd.N_far (p := ⟨gb453, 2, none⟩) (Kd.N_far (p := ⟨gb453, 1, none⟩) (Kd.N_far (p := ⟨gb453, 0, none⟩) (Kd.N_mono HO430.out (fun k_ hk => (⟨hk, hk.2⟩ : _ ∧ k_ ≠ gb453))) (fun _ hk => hk.2) (.int .i64 t447)) (fun _ hk => hk.2) (.slice Ao53 t448.length co53)) (fun _ hk => hk.2) (.bool t451)) (fun _ h_ => h_.1))) (show ∀ k_, (Value.slice none 0 0).ownBlock = some k_ → _ ≤ k_ from fun k_ h_ => by simp [Value.ownBlock] at h_) hb); replace HO436 := zK (Kd.R_elder' (by (with_reducible repeat (first | apply Kd.R_alloc | apply Kd.R_drewN | apply Kd.R_drew)); exact (Kd.R_mono (Kd.R_far (p := ⟨gb453, 2, none⟩) (Kd.R_far (p := ⟨gb453, 1, none⟩) (Kd.R_far (p := ⟨gb453, 0, none⟩) (Kd.R_types HO436.out BK453.out (by decide)) (fun _ hk => hk.2) (.int .i64 t447)) (fun _ hk => hk.2) (.slice Ao53 t448.length co53)) (fun _ hk => hk.2) (.bool t451)) (fun _ h_ => h_.1))) (show ∀ k_, (Value.slice none 0 0).ownBlock = some k_ → _ ≤ k_ from fun k_ h_ => by simp [Value.ownBlock] at h_) hb); replace HO443 := zK (Kd.R_elder' (by (with_reducible repeat (first | apply Kd.R_alloc | apply Kd.R_drewN | apply Kd.R_drew)); exact (Kd.R_mono (Kd.R_far (p := ⟨gb453, 2, none⟩) (Kd.R_far (p := ⟨gb453, 1, none⟩) (Kd.R_far (p := ⟨gb453, 0, none⟩) (Kd.R_types HO443.out BK453.out (by decide)) (fun _ hk => hk.2) (.int .i64 t447)) (fun _ hk => hk.2) (.slice Ao53 t448.length co53)) (fun _ hk => hk.2) (.bool t451)) (fun _ h_ => h_.1))) (show ∀ k_, (Value.slice none 0 0).ownBlock = some k_ → _ ≤ k_ from fun k_ h_ => by simp [Value.ownBlock] at h_) hb); replace HO450 := zK (Kd.R_elder' (by (with_reducible repeat (first | apply Kd.R_alloc | apply Kd.R_drewN | apply Kd.R_drew)); exact (Kd.R_mono (Kd.R_far (p := ⟨gb453, 2, none⟩) (Kd.R_far (p := ⟨gb453, 1, none⟩) (Kd.R_far (p := ⟨gb453, 0, none⟩) (Kd.R_types HO450.out BK453.out (by decide)) (fun _ hk => hk.2) (.int .i64 t447)) (fun _ hk => hk.2) (.slice Ao53 t448.length co53)) (fun _ hk => hk.2) (.bool t451)) (fun _ h_ => h_.1))) (show ∀ k_, (Value.slice none 0 0).ownBlock = some k_ → _ ≤ k_ from fun k_ h_ => by simp [Value.ownBlock] at h_) hb); have HO457 := zK ho0; replace BK426 := zK (blk_below (g := gb426) (o := .cells #[.int .i64 a0_0, .slice A0_1 l0_1.length c0_1, .bool a0_2] 30 (0, 0)) (zb BK426) hb); replace BK427 := zK (blk_below (g := gb427) (o := .cells #[.int .i64 a1_0, .slice A1_1 l1_1.length c1_1, .bool a1_2] 30 (0, 0)) (zb BK427) hb); replace BK439 := zK (blk_below (g := gb439) (o := .cells #[.int .i64 t433, .slice Ao35 t434.length co35, .bool t437] 30 (0, 0)) (zb BK439) hb); replace BK446 := zK (blk_below (g := gb446) (o := .cells #[.int .i64 t440, .slice Ao44 t441.length co44, .bool t444] 30 (0, 0)) (zb BK446) hb); replace BK453 := zK (blk_below (g := gb453) (o := .cells #[.int .i64 t447, .slice Ao53 t448.length co53, .bool t451] 30 (0, 0)) (by refine zM ?_; refine blk_put (cs := #[.int .i64 t447, .slice Ao53 t448.length co53, .bool false]) ?_ 2 _ rfl; refine zM ?_; refine blk_put (cs := #[.int .i64 t447, .slice none 0 0, .bool false]) ?_ 1 _ rfl; refine zM ?_; refine blk_put (cs := #[.int .i64 0, .slice none 0 0, .bool false]) ?_ 0 _ rfl; refine zM ?_; exact BK453.out) hb); replace HB := zK (below_step (zo HB) hb); (try clear hb); (try clear hb2); (try clear hk); (try clear hi); (try clear ho0)) | ((with_reducible refine gate_dst (N := 11) rfl ?_); refine box_event ?hg (N := 11) ?hd (cs := #[.int .i64 0, .slice none 0 0, .bool false]) (t := 30) ?hr ?_; (case hd => rfl); (case hg => rfl); (case hr => first | (go_simp; done) | (go_simp; rfl)); intro gb460 hg w56 hbox hb; replace HO0_1 := zK (Kd.V_below (Kd.V_elderB (zv HO0_1) gb460 (Nat.le_of_eq hg.symm)) hb); replace HO1_1 := zK (Kd.V_below (Kd.V_elderB (zv HO1_1) gb460 (Nat.le_of_eq hg.symm)) hb); replace HO430 := zK (Kd.N_below (Kd.N_elderB (zn HO430) gb460 (Nat.le_of_eq hg.symm)) hb); replace HO436 := zK (Kd.R_below (zr HO436) hb); replace HO443 := zK (Kd.R_below (zr HO443) hb); replace HO450 := zK (Kd.R_below (zr HO450) hb); replace HO457 := zK (Kd.V_below (Kd.V_elderB (zv HO457) gb460 (Nat.le_of_eq hg.symm)) hb); have BK460 := zK (hbox); have GW460 := zK ((by rw [hg]; exact (below_size (zo HB)) : w.heap.size ≤ gb460)); have GE460 := zK ((by rw [hg]; exact (below_size (zo HB)) : w.heap.size ≤ gb460)); replace HB := zK (below_step (zo HB) hb); have NB426_460 := zK ((by rw [hg]; exact Nat.ne_of_lt (blk_lt (g := gb426) (o := .cells #[.int .i64 a0_0, .slice A0_1 l0_1.length c0_1, .bool a0_2] 30 (0, 0)) (zb BK426)) : gb426 ≠ gb460)); have NB460_426 := zK ((by rw [hg]; exact Nat.ne_of_gt (blk_lt (g := gb426) (o := .cells #[.int .i64 a0_0, .slice A0_1 l0_1.length c0_1, .bool a0_2] 30 (0, 0)) (zb BK426)) : gb460 ≠ gb426)); replace BK426 := zK (blk_below (g := gb426) (o := .cells #[.int .i64 a0_0, .slice A0_1 l0_1.length c0_1, .bool a0_2] 30 (0, 0)) (zb BK426) hb); have NB427_460 := zK ((by rw [hg]; exact Nat.ne_of_lt (blk_lt (g := gb427) (o := .cells #[.int .i64 a1_0, .slice A1_1 l1_1.length c1_1, .bool a1_2] 30 (0, 0)) (zb BK427)) : gb427 ≠ gb460)); have NB460_427 := zK ((by rw [hg]; exact Nat.ne_of_gt (blk_lt (g := gb427) (o := .cells #[.int .i64 a1_0, .slice A1_1 l1_1.length c1_1, .bool a1_2] 30 (0, 0)) (zb BK427)) : gb460 ≠ gb427)); replace BK427 := zK (blk_below (g := gb427) (o := .cells #[.int .i64 a1_0, .slice A1_1 l1_1.length c1_1, .bool a1_2] 30 (0, 0)) (zb BK427) hb); have NB439_460 := zK ((by rw [hg]; exact Nat.ne_of_lt (blk_lt (g := gb439) (o := .cells #[.int .i64 t433, .slice Ao35 t434.length co35, .bool t437] 30 (0, 0)) (zb BK439)) : gb439 ≠ gb460)); have NB460_439 := zK ((by rw [hg]; exact Nat.ne_of_gt (blk_lt (g := gb439) (o := .cells #[.int .i64 t433, .slice Ao35 t434.length co35, .bool t437] 30 (0, 0)) (zb BK439)) : gb460 ≠ gb439)); replace BK439 := zK (blk_below (g := gb439) (o := .cells #[.int .i64 t433, .slice Ao35 t434.length co35, .bool t437] 30 (0, 0)) (zb BK439) hb); have NB446_460 := zK ((by rw [hg]; exact Nat.ne_of_lt (blk_lt (g := gb446) (o := .cells #[.int .i64 t440, .slice Ao44 t441.length co44, .bool t444] 30 (0, 0)) (zb BK446)) : gb446 ≠ gb460)); have NB460_446 := zK ((by rw [hg]; exact Nat.ne_of_gt (blk_lt (g := gb446) (o := .cells #[.int .i64 t440, .slice Ao44 t441.length co44, .bool t444] 30 (0, 0)) (zb BK446)) : gb460 ≠ gb446)); replace BK446 := zK (blk_below (g := gb446) (o := .cells #[.int .i64 t440, .slice Ao44 t441.length co44, .bool t444] 30 (0, 0)) (zb BK446) hb); have NB453_460 := zK ((by rw [hg]; exact Nat.ne_of_lt (blk_lt (g := gb453) (o := .cells #[.int .i64 t447, .slice Ao53 t448.length co53, .bool t451] 30 (0, 0)) (zb BK453)) : gb453 ≠ gb460)); have NB460_453 := zK ((by rw [hg]; exact Nat.ne_of_gt (blk_lt (g := gb453) (o := .cells #[.int .i64 t447, .slice Ao53 t448.length co53, .bool t451] 30 (0, 0)) (zb BK453)) : gb460 ≠ gb453)); replace BK453 := zK (blk_below (g := gb453) (o := .cells #[.int .i64 t447, .slice Ao53 t448.length co53, .bool t451] 30 (0, 0)) (zb BK453) hb); clear hb hbox hg; have hnb57 := NB460_426.out; have hnc57 := NB426_460.out; have hnb58 := NB460_427.out; have hnc58 := NB427_460.out; have hnb59 := NB460_439.out; have hnc59 := NB439_460.out; have hnb60 := NB460_446.out; have hnc60 := NB446_460.out; have hnb61 := NB460_453.out; have hnc61 := NB453_460.out; have hcz62_0 : w56.cell? ⟨gb460, 0, none⟩ = some (.int .i64 0) := (blk_cell BK460.out 0).trans rfl; have hcz62_1 : w56.cell? ⟨gb460, 1, none⟩ = some (.slice none 0 0) := (blk_cell BK460.out 1).trans rfl; have hcz62_2 : w56.cell? ⟨gb460, 2, none⟩ = some (.bool false) := (blk_cell BK460.out 2).trans rfl; have hfz62_0 := blk_frozen BK460.out 0; have hfz62_1 := blk_frozen BK460.out 1; have hfz62_2 := blk_frozen BK460.out 2; obtain ⟨Ao63, co63, eo63⟩ := Kd.V_slice HO457.out; subst eo63))
        have n0_ : Aside0 (Kd.V k47 47 (((w56.setCell ⟨gb460, 0, none⟩ (.int .i64 t454)).setCell ⟨gb460, 1, none⟩ (.slice Ao63 t455.length co63)).setCell ⟨gb460, 2, none⟩ (.bool t458)) w.heap.size (fun k_ => ((P0_1_ k_ ∨ P1_1_ k_) ∨ w.heap.size ≤ k_) ∧ some k_ ≠ (.slice Ao28 y428.length co28 : Value).ownBlock ∧ some k_ ≠ (.slice Ao35 t434.length co35 : Value).ownBlock ∧ some k_ ≠ (.slice Ao44 t441.length co44 : Value).ownBlock ∧ some k_ ≠ (.slice Ao53 t448.length co53 : Value).ownBlock ∧ some k_ ≠ (.slice none 0 0 : Value).ownBlock ∧ k_ ≠ gb426 ∧ k_ ≠ gb427 ∧ k_ ≠ gb439 ∧ k_ ≠ gb446 ∧ k_ ≠ gb453 ∧ k_ ≠ gb460) (.slice A0_1 l0_1.length c0_1) l0_1) := ⟨by (with_reducible repeat (first | apply vA | apply vN | apply vD)); exact vM (vF (p := ⟨gb460, 2, none⟩) (vF (p := ⟨gb460, 1, none⟩) (vF (p := ⟨gb460, 0, none⟩) (vM HO0_1.out (fun k_ hk => (⟨hk, hk.2⟩ : _ ∧ k_ ≠ gb460))) (fun _ hk => hk.2) (.int .i64 t454)) (fun _ hk => hk.2) (.slice Ao63 t455.length co63)) (fun _ hk => hk.2) (.bool t458)) (fun _ hk => ⟨hk.1.1.1.1.1.1.1.1, ⟨hk.1.1.1.1.1.1.1.2.1, ⟨hk.1.1.1.1.1.1.1.2.2.1, ⟨hk.1.1.1.1.1.1.2, ⟨hk.1.1.1.1.2, ⟨hk.1.1.2, ⟨hk.1.1.1.1.1.1.1.2.2.2.1, ⟨hk.1.1.1.1.1.1.1.2.2.2.2.1, ⟨hk.1.1.1.1.1.1.1.2.2.2.2.2, ⟨hk.1.1.1.1.1.2, ⟨hk.1.1.1.2, hk.1.2⟩⟩⟩⟩⟩⟩⟩⟩⟩⟩⟩)⟩
        have n1_ : Aside0 (Kd.V k47 47 (((w56.setCell ⟨gb460, 0, none⟩ (.int .i64 t454)).setCell ⟨gb460, 1, none⟩ (.slice Ao63 t455.length co63)).setCell ⟨gb460, 2, none⟩ (.bool t458)) w.heap.size (fun k_ => ((P0_1_ k_ ∨ P1_1_ k_) ∨ w.heap.size ≤ k_) ∧ some k_ ≠ (.slice Ao28 y428.length co28 : Value).ownBlock ∧ some k_ ≠ (.slice Ao35 t434.length co35 : Value).ownBlock ∧ some k_ ≠ (.slice Ao44 t441.length co44 : Value).ownBlock ∧ some k_ ≠ (.slice Ao53 t448.length co53 : Value).ownBlock ∧ some k_ ≠ (.slice none 0 0 : Value).ownBlock ∧ k_ ≠ gb426 ∧ k_ ≠ gb427 ∧ k_ ≠ gb439 ∧ k_ ≠ gb446 ∧ k_ ≠ gb453 ∧ k_ ≠ gb460) (.slice A1_1 l1_1.length c1_1) l1_1) := ⟨by (with_reducible repeat (first | apply vA | apply vN | apply vD)); exact vM (vF (p := ⟨gb460, 2, none⟩) (vF (p := ⟨gb460, 1, none⟩) (vF (p := ⟨gb460, 0, none⟩) (vM HO1_1.out (fun k_ hk => (⟨hk, hk.2⟩ : _ ∧ k_ ≠ gb460))) (fun _ hk => hk.2) (.int .i64 t454)) (fun _ hk => hk.2) (.slice Ao63 t455.length co63)) (fun _ hk => hk.2) (.bool t458)) (fun _ hk => ⟨hk.1.1.1.1.1.1.1.1, ⟨hk.1.1.1.1.1.1.1.2.1, ⟨hk.1.1.1.1.1.1.1.2.2.1, ⟨hk.1.1.1.1.1.1.2, ⟨hk.1.1.1.1.2, ⟨hk.1.1.2, ⟨hk.1.1.1.1.1.1.1.2.2.2.1, ⟨hk.1.1.1.1.1.1.1.2.2.2.2.1, ⟨hk.1.1.1.1.1.1.1.2.2.2.2.2, ⟨hk.1.1.1.1.1.2, ⟨hk.1.1.1.2, hk.1.2⟩⟩⟩⟩⟩⟩⟩⟩⟩⟩⟩)⟩
        have n2_ : Aside0 (Kd.N k30 30 (((w56.setCell ⟨gb460, 0, none⟩ (.int .i64 t454)).setCell ⟨gb460, 1, none⟩ (.slice Ao63 t455.length co63)).setCell ⟨gb460, 2, none⟩ (.bool t458)) w.heap.size (fun k_ => ((P0_1_ k_ ∨ P1_1_ k_) ∨ w.heap.size ≤ k_) ∧ some k_ ≠ (.slice Ao35 t434.length co35 : Value).ownBlock ∧ some k_ ≠ (.slice Ao44 t441.length co44 : Value).ownBlock ∧ some k_ ≠ (.slice Ao53 t448.length co53 : Value).ownBlock ∧ some k_ ≠ (.slice none 0 0 : Value).ownBlock ∧ k_ ≠ gb426 ∧ k_ ≠ gb427 ∧ k_ ≠ gb439 ∧ k_ ≠ gb446 ∧ k_ ≠ gb453 ∧ k_ ≠ gb460) (.slice Ao28 y428.length co28) y428) := ⟨by (with_reducible repeat (first | apply nA | apply nN | apply nD)); exact Kd.N_mono (Kd.N_far (p := ⟨gb460, 2, none⟩) (Kd.N_far (p := ⟨gb460, 1, none⟩) (Kd.N_far (p := ⟨gb460, 0, none⟩) (Kd.N_mono HO430.out (fun k_ hk => (⟨hk, hk.2⟩ : _ ∧ k_ ≠ gb460))) (fun _ hk => hk.2) (.int .i64 t454)) (fun _ hk => hk.2) (.slice Ao63 t455.length co63)) (fun _ hk => hk.2) (.bool t458)) (fun _ hk => ⟨hk.1.1.1.1.1.1.1.1, ⟨hk.1.1.1.1.1.1.1.2.1, ⟨hk.1.1.1.1.1.1.2, ⟨hk.1.1.1.1.2, ⟨hk.1.1.2, ⟨hk.1.1.1.1.1.1.1.2.2.1, ⟨hk.1.1.1.1.1.1.1.2.2.2.1, ⟨hk.1.1.1.1.1.1.1.2.2.2.2, ⟨hk.1.1.1.1.1.2, ⟨hk.1.1.1.2, hk.1.2⟩⟩⟩⟩⟩⟩⟩⟩⟩⟩)⟩
        have n3_ : Aside0 (Kd.R k47 47 (((w56.setCell ⟨gb460, 0, none⟩ (.int .i64 t454)).setCell ⟨gb460, 1, none⟩ (.slice Ao63 t455.length co63)).setCell ⟨gb460, 2, none⟩ (.bool t458)) w.heap.size (fun k_ => (w.heap.size ≤ k_) ∧ some k_ ≠ (.slice Ao44 t441.length co44 : Value).ownBlock ∧ some k_ ≠ (.slice Ao53 t448.length co53 : Value).ownBlock ∧ some k_ ≠ (.slice none 0 0 : Value).ownBlock) (.slice Ao35 t434.length co35) t434) := ⟨by (with_reducible repeat (first | apply Kd.R_alloc | apply Kd.R_drewN | apply Kd.R_drew)); exact Kd.R_mono (Kd.R_far (p := ⟨gb460, 2, none⟩) (Kd.R_far (p := ⟨gb460, 1, none⟩) (Kd.R_far (p := ⟨gb460, 0, none⟩) (Kd.R_types HO436.out BK460.out (by decide)) (fun _ hk => hk.2) (.int .i64 t454)) (fun _ hk => hk.2) (.slice Ao63 t455.length co63)) (fun _ hk => hk.2) (.bool t458)) (fun _ hk => ⟨hk.1.1.1.1, ⟨hk.1.1.1.2, ⟨hk.1.1.2, hk.1.2⟩⟩⟩)⟩
        have n4_ : Aside0 (Kd.R k47 47 (((w56.setCell ⟨gb460, 0, none⟩ (.int .i64 t454)).setCell ⟨gb460, 1, none⟩ (.slice Ao63 t455.length co63)).setCell ⟨gb460, 2, none⟩ (.bool t458)) w.heap.size (fun k_ => (w.heap.size ≤ k_) ∧ some k_ ≠ (.slice Ao35 t434.length co35 : Value).ownBlock ∧ some k_ ≠ (.slice Ao53 t448.length co53 : Value).ownBlock ∧ some k_ ≠ (.slice none 0 0 : Value).ownBlock) (.slice Ao44 t441.length co44) t441) := ⟨by (with_reducible repeat (first | apply Kd.R_alloc | apply Kd.R_drewN | apply Kd.R_drew)); exact Kd.R_mono (Kd.R_far (p := ⟨gb460, 2, none⟩) (Kd.R_far (p := ⟨gb460, 1, none⟩) (Kd.R_far (p := ⟨gb460, 0, none⟩) (Kd.R_types HO443.out BK460.out (by decide)) (fun _ hk => hk.2) (.int .i64 t454)) (fun _ hk => hk.2) (.slice Ao63 t455.length co63)) (fun _ hk => hk.2) (.bool t458)) (fun _ hk => ⟨hk.1.1.1.1.1, ⟨hk.1.1.1.2, ⟨hk.1.1.2, hk.1.2⟩⟩⟩)⟩
        have n5_ : Aside0 (Kd.R k47 47 (((w56.setCell ⟨gb460, 0, none⟩ (.int .i64 t454)).setCell ⟨gb460, 1, none⟩ (.slice Ao63 t455.length co63)).setCell ⟨gb460, 2, none⟩ (.bool t458)) w.heap.size (fun k_ => (w.heap.size ≤ k_) ∧ some k_ ≠ (.slice Ao35 t434.length co35 : Value).ownBlock ∧ some k_ ≠ (.slice Ao44 t441.length co44 : Value).ownBlock ∧ some k_ ≠ (.slice none 0 0 : Value).ownBlock) (.slice Ao53 t448.length co53) t448) := ⟨by (with_reducible repeat (first | apply Kd.R_alloc | apply Kd.R_drewN | apply Kd.R_drew)); exact Kd.R_mono (Kd.R_far (p := ⟨gb460, 2, none⟩) (Kd.R_far (p := ⟨gb460, 1, none⟩) (Kd.R_far (p := ⟨gb460, 0, none⟩) (Kd.R_types HO450.out BK460.out (by decide)) (fun _ hk => hk.2) (.int .i64 t454)) (fun _ hk => hk.2) (.slice Ao63 t455.length co63)) (fun _ hk => hk.2) (.bool t458)) (fun _ hk => ⟨hk.1.1.1.1.1, ⟨hk.1.1.1.2, ⟨hk.1.1.2, hk.1.2⟩⟩⟩)⟩
        have n6_ : Aside0 (Kd.V k47 47 (((w56.setCell ⟨gb460, 0, none⟩ (.int .i64 t454)).setCell ⟨gb460, 1, none⟩ (.slice Ao63 t455.length co63)).setCell ⟨gb460, 2, none⟩ (.bool t458)) w.heap.size (fun _ => True) (.slice Ao63 t455.length co63) t455) := ⟨by (with_reducible repeat (first | apply vA | apply vN | apply vD)); exact vM (vF (p := ⟨gb460, 2, none⟩) (vF (p := ⟨gb460, 1, none⟩) (vF (p := ⟨gb460, 0, none⟩) (vM HO457.out (fun k_ hk => (⟨hk, hk.2⟩ : _ ∧ k_ ≠ gb460))) (fun _ hk => hk.2) (.int .i64 t454)) (fun _ hk => hk.2) (.slice Ao63 t455.length co63)) (fun _ hk => hk.2) (.bool t458)) (fun _ _ => trivial)⟩
        have n7_ : Aside0 ((((w56.setCell ⟨gb460, 0, none⟩ (.int .i64 t454)).setCell ⟨gb460, 1, none⟩ (.slice Ao63 t455.length co63)).setCell ⟨gb460, 2, none⟩ (.bool t458)).heap[gb426]? = some (.cells #[.int .i64 a0_0, .slice A0_1 l0_1.length c0_1, .bool a0_2] 30 (0, 0))) := ⟨zb BK426⟩
        have n8_ : Aside0 ((((w56.setCell ⟨gb460, 0, none⟩ (.int .i64 t454)).setCell ⟨gb460, 1, none⟩ (.slice Ao63 t455.length co63)).setCell ⟨gb460, 2, none⟩ (.bool t458)).heap[gb427]? = some (.cells #[.int .i64 a1_0, .slice A1_1 l1_1.length c1_1, .bool a1_2] 30 (0, 0))) := ⟨zb BK427⟩
        have n9_ : Aside0 ((((w56.setCell ⟨gb460, 0, none⟩ (.int .i64 t454)).setCell ⟨gb460, 1, none⟩ (.slice Ao63 t455.length co63)).setCell ⟨gb460, 2, none⟩ (.bool t458)).heap[gb439]? = some (.cells #[.int .i64 t433, .slice Ao35 t434.length co35, .bool t437] 30 (0, 0))) := ⟨zb BK439⟩
        have n10_ : Aside0 ((((w56.setCell ⟨gb460, 0, none⟩ (.int .i64 t454)).setCell ⟨gb460, 1, none⟩ (.slice Ao63 t455.length co63)).setCell ⟨gb460, 2, none⟩ (.bool t458)).heap[gb446]? = some (.cells #[.int .i64 t440, .slice Ao44 t441.length co44, .bool t444] 30 (0, 0))) := ⟨zb BK446⟩
        have n11_ : Aside0 ((((w56.setCell ⟨gb460, 0, none⟩ (.int .i64 t454)).setCell ⟨gb460, 1, none⟩ (.slice Ao63 t455.length co63)).setCell ⟨gb460, 2, none⟩ (.bool t458)).heap[gb453]? = some (.cells #[.int .i64 t447, .slice Ao53 t448.length co53, .bool t451] 30 (0, 0))) := ⟨zb BK453⟩
        have n12_ : Aside0 ((((w56.setCell ⟨gb460, 0, none⟩ (.int .i64 t454)).setCell ⟨gb460, 1, none⟩ (.slice Ao63 t455.length co63)).setCell ⟨gb460, 2, none⟩ (.bool t458)).heap[gb460]? = some (.cells #[.int .i64 t454, .slice Ao63 t455.length co63, .bool t458] 30 (0, 0))) := ⟨by refine zM ?_; refine blk_put (cs := #[.int .i64 t454, .slice Ao63 t455.length co63, .bool false]) ?_ 2 _ rfl; refine zM ?_; refine blk_put (cs := #[.int .i64 t454, .slice none 0 0, .bool false]) ?_ 1 _ rfl; refine zM ?_; refine blk_put (cs := #[.int .i64 0, .slice none 0 0, .bool false]) ?_ 0 _ rfl; refine zM ?_; exact BK460.out⟩
        have n13_ : Aside0 (Below w.heap.size w (((w56.setCell ⟨gb460, 0, none⟩ (.int .i64 t454)).setCell ⟨gb460, 1, none⟩ (.slice Ao63 t455.length co63)).setCell ⟨gb460, 2, none⟩ (.bool t458))) := ⟨zo HB⟩
        (try clear HO0_1)
        (try clear HO1_1)
        (try clear HO430)
        (try clear HO436)
        (try clear HO443)
        (try clear HO450)
        (try clear HO457)
        (try clear BK426)
        (try clear BK427)
        (try clear BK439)
        (try clear BK446)
        (try clear BK453)
        (try clear BK460)
        (try clear HB)
        generalize (((w56.setCell ⟨gb460, 0, none⟩ (.int .i64 t454)).setCell ⟨gb460, 1, none⟩ (.slice Ao63 t455.length co63)).setCell ⟨gb460, 2, none⟩ (.bool t458)) = w64 at n0_ n1_ n2_ n3_ n4_ n5_ n6_ n7_ n8_ n9_ n10_ n11_ n12_ n13_ ⊢
        have HO0_1 := n0_
        have HO1_1 := n1_
        have HO430 := n2_
        have HO436 := n3_
        have HO443 := n4_
        have HO450 := n5_
        have HO457 := n6_
        have BK426 := n7_
        have BK427 := n8_
        have BK439 := n9_
        have BK446 := n10_
        have BK453 := n11_
        have BK460 := n12_
        have HB := n13_
        clear n0_ n1_ n2_ n3_ n4_ n5_ n6_ n7_ n8_ n9_ n10_ n11_ n12_ n13_
        replace HO0_1 := zK (vD HO0_1.out)
        replace HO1_1 := zK (vD HO1_1.out)
        replace HO430 := zK (nD HO430.out)
        replace HO436 := zK (Kd.R_drew HO436.out)
        replace HO443 := zK (Kd.R_drew HO443.out)
        replace HO450 := zK (Kd.R_drew HO450.out)
        replace HO457 := zK (Kd.V_drew HO457.out)
        replace BK426 := zK (zD BK426.out)
        replace BK427 := zK (zD BK427.out)
        replace BK439 := zK (zD BK439.out)
        replace BK446 := zK (zD BK446.out)
        replace BK453 := zK (zD BK453.out)
        replace BK460 := zK (zD BK460.out)
        replace HB := zK (yD HB.out)
        refine start_ (n := 36) (S := fun w' => w'.cell? ⟨gb439, 0, none⟩ = some (.int .i64 t433) ∧ w'.cell? ⟨gb439, 1, none⟩ = some (.slice Ao35 t434.length co35) ∧ w'.cell? ⟨gb439, 2, none⟩ = some (.bool t437) ∧ w'.cell? ⟨gb446, 0, none⟩ = some (.int .i64 t440) ∧ w'.cell? ⟨gb446, 1, none⟩ = some (.slice Ao44 t441.length co44) ∧ w'.cell? ⟨gb446, 2, none⟩ = some (.bool t444) ∧ w'.cell? ⟨gb453, 0, none⟩ = some (.int .i64 t447) ∧ w'.cell? ⟨gb453, 1, none⟩ = some (.slice Ao53 t448.length co53) ∧ w'.cell? ⟨gb453, 2, none⟩ = some (.bool t451) ∧ w'.cell? ⟨gb460, 0, none⟩ = some (.int .i64 t454) ∧ w'.cell? ⟨gb460, 1, none⟩ = some (.slice Ao63 t455.length co63) ∧ w'.cell? ⟨gb460, 2, none⟩ = some (.bool t458) ∧ w'.cell? ⟨gb426, 0, none⟩ = some (.int .i64 a0_0) ∧ w'.cell? ⟨gb426, 1, none⟩ = some (.slice A0_1 l0_1.length c0_1) ∧ w'.cell? ⟨gb426, 2, none⟩ = some (.bool a0_2) ∧ w'.cell? ⟨gb427, 0, none⟩ = some (.int .i64 a1_0) ∧ w'.cell? ⟨gb427, 1, none⟩ = some (.slice A1_1 l1_1.length c1_1) ∧ w'.cell? ⟨gb427, 2, none⟩ = some (.bool a1_2)) (ds := []) #[false, false, false, false, false, false, false, false, false, false, false, false, false, false, false, false, false, false, false, false, false, false, false, false, false, false, false, false, false, false, false, false, false, false, false, false] (by kernel_rfl) rfl rfl ⟨(blk_cell BK439.out 0).trans rfl, (blk_cell BK439.out 1).trans rfl, (blk_cell BK439.out 2).trans rfl, (blk_cell BK446.out 0).trans rfl, (blk_cell BK446.out 1).trans rfl, (blk_cell BK446.out 2).trans rfl, (blk_cell BK453.out 0).trans rfl, (blk_cell BK453.out 1).trans rfl, (blk_cell BK453.out 2).trans rfl, (blk_cell BK460.out 0).trans rfl, (blk_cell BK460.out 1).trans rfl, (blk_cell BK460.out 2).trans rfl, (blk_cell BK426.out 0).trans rfl, (blk_cell BK426.out 1).trans rfl, (blk_cell BK426.out 2).trans rfl, (blk_cell BK427.out 0).trans rfl, (blk_cell BK427.out 1).trans rfl, (blk_cell BK427.out 2).trans rfl⟩ (fun hHeld => ?_); refine with_tabW sequiturlaw28_IneqTurns.tab7 sequiturlaw28_IneqTurns.bits7 (fun HT_ HW_ => ?_)
        generalize w64.drew = w65 at HO0_1 HO1_1 HO430 HO436 HO443 HO450 HO457 BK426 BK427 BK439 BK446 BK453 BK460 HB hHeld ⊢
        refine take_ (i := 0) (N := some 39) (v := ?_) (a' := ?_) #[true, false, false, false, false, false, false, false, false, false, false, false, false, false, false, false, false, false, false, false, false, false, false, false, false, false, false, false, false, false, false, false, false, false, false, false] rfl rfl (take_ofW HT_.out HW_.out (by kernel_rfl)) (fun _ _ _ h => h) (Or.inl ⟨by rfl, ?_⟩) hHeld ?_ ?_
        rotate_left
        ·rintro w' ⟨s0, s1, s2, s3, s4, s5, s6, s7, s8, s9, s10, s11, s12, s13, s14, s15, s16, s17⟩
         go_simp
         with_reducible rfl
        rotate_left
        ·simp only [Act.put, List.setIfInBounds_toArray, List.set_cons_zero, List.set_cons_succ, i64_w, i32_w]
         rfl
        refine take_ (i := 1) (N := some 40) (v := ?_) (a' := ?_) #[true, true, false, false, false, false, false, false, false, false, false, false, false, false, false, false, false, false, false, false, false, false, false, false, false, false, false, false, false, false, false, false, false, false, false, false] rfl rfl (take_ofW HT_.out HW_.out (by kernel_rfl)) (fun _ _ _ h => h) (Or.inl ⟨by rfl, ?_⟩) hHeld ?_ ?_
        rotate_left
        ·rintro w' ⟨s0, s1, s2, s3, s4, s5, s6, s7, s8, s9, s10, s11, s12, s13, s14, s15, s16, s17⟩
         go_simp
         with_reducible rfl
        rotate_left
        ·simp only [Act.put, List.setIfInBounds_toArray, List.set_cons_zero, List.set_cons_succ, i64_w, i32_w]
         rfl
        refine one_ (i := 2) (N := some 41) #[true, true, true, false, false, false, false, false, false, false, false, false, false, false, false, false, false, false, false, false, false, false, false, false, false, false, false, false, false, false, false, false, false, false, false, false] rfl rfl (one_of HT_.out (by kernel_rfl)) (by decide) (fun K hK => ?_)
        refine goes_ Try.func13 (by kernel_rfl) rfl #[.agg #[.int .i64 t433, .slice Ao35 t434.length co35, .bool t437], .agg #[.int .i64 t440, .slice Ao44 t441.length co44, .bool t444]] (by rfl) rfl rfl (by (try simp only [List.map_toArray, List.map_cons, List.map_nil]); first | done | rfl | (simp only [List.length_drop, List.length_take]; rfl)) ?_
        with_reducible refine (sequiturbase_Ineq.calls k t433 _ _ t434 t437 t440 _ _ t441 t444 true _ ?side1 ?side2 ?side3 ?side4 A9.out).mono ?_
        (case side1 => repeat (first | exact (Kd.R_reads' HO436.out).2.2 | (with_reducible refine cA ?_ _) | (with_reducible refine cN ?_ _) | (with_reducible refine cD ?_)))
        (case side2 => exact (Kd.R_reads' HO436.out).2.1)
        (case side3 => repeat (first | exact (Kd.R_reads' HO443.out).2.2 | (with_reducible refine cA ?_ _) | (with_reducible refine cN ?_ _) | (with_reducible refine cD ?_)))
        (case side4 => exact (Kd.R_reads' HO443.out).2.1)
        rintro e w66 ⟨rfl, hb⟩
        refine ⟨_, rfl, ?_⟩
        replace HO0_1 := zK (Kd.V_below (zv HO0_1) hb)
        replace HO1_1 := zK (Kd.V_below (zv HO1_1) hb)
        replace HO430 := zK (Kd.N_below (zn HO430) hb)
        replace HO436 := zK (Kd.R_below (zr HO436) hb)
        replace HO443 := zK (Kd.R_below (zr HO443) hb)
        replace HO450 := zK (Kd.R_below (zr HO450) hb)
        replace HO457 := zK (Kd.V_below (zv HO457) hb)
        replace BK426 := zK (blk_below (g := gb426) (o := .cells #[.int .i64 a0_0, .slice A0_1 l0_1.length c0_1, .bool a0_2] 30 (0, 0)) (zb BK426) hb)
        replace BK427 := zK (blk_below (g := gb427) (o := .cells #[.int .i64 a1_0, .slice A1_1 l1_1.length c1_1, .bool a1_2] 30 (0, 0)) (zb BK427) hb)
        replace BK439 := zK (blk_below (g := gb439) (o := .cells #[.int .i64 t433, .slice Ao35 t434.length co35, .bool t437] 30 (0, 0)) (zb BK439) hb)
        replace BK446 := zK (blk_below (g := gb446) (o := .cells #[.int .i64 t440, .slice Ao44 t441.length co44, .bool t444] 30 (0, 0)) (zb BK446) hb)
        replace BK453 := zK (blk_below (g := gb453) (o := .cells #[.int .i64 t447, .slice Ao53 t448.length co53, .bool t451] 30 (0, 0)) (zb BK453) hb)
        replace BK460 := zK (blk_below (g := gb460) (o := .cells #[.int .i64 t454, .slice Ao63 t455.length co63, .bool t458] 30 (0, 0)) (zb BK460) hb)
        replace HB := zK (below_step (zo HB) hb)
        (try clear hb)
        (try clear hb2)
        (try clear hk)
        (try clear hi)
        refine hK.out _ _ ⟨(blk_cell BK439.out 0).trans rfl, (blk_cell BK439.out 1).trans rfl, (blk_cell BK439.out 2).trans rfl, (blk_cell BK446.out 0).trans rfl, (blk_cell BK446.out 1).trans rfl, (blk_cell BK446.out 2).trans rfl, (blk_cell BK453.out 0).trans rfl, (blk_cell BK453.out 1).trans rfl, (blk_cell BK453.out 2).trans rfl, (blk_cell BK460.out 0).trans rfl, (blk_cell BK460.out 1).trans rfl, (blk_cell BK460.out 2).trans rfl, (blk_cell BK426.out 0).trans rfl, (blk_cell BK426.out 1).trans rfl, (blk_cell BK426.out 2).trans rfl, (blk_cell BK427.out 0).trans rfl, (blk_cell BK427.out 1).trans rfl, (blk_cell BK427.out 2).trans rfl⟩ (fun hHeld => ?_)
        clear hK K
        refine norm_ (a' := ?_) ?_ ?_
        rotate_left
        ·show Act.put _ (some 41) _ = _
         simp only [Act.put, List.setIfInBounds_toArray, List.set_cons_zero, List.set_cons_succ, i64_w, i32_w]
         rfl
        refine pure_ (i := 3) (N := some 42) (v := ?_) (a' := ?_) #[true, true, true, true, false, false, false, false, false, false, false, false, false, false, false, false, false, false, false, false, false, false, false, false, false, false, false, false, false, false, false, false, false, false, false, false] rfl rfl (any_of HT_.out (by kernel_rfl)) (fun _ _ _ h => h) (Or.inl ⟨by rfl, ?_⟩) ?_ ?_
        rotate_left
        ·intro w'
         go_simp
         with_reducible rfl
        rotate_left
        ·simp only [Act.put, List.setIfInBounds_toArray, List.set_cons_zero, List.set_cons_succ, i64_w, i32_w]
         rfl
        refine pure_ (i := 4) (N := some 43) (v := ?_) (a' := ?_) #[true, true, true, true, true, false, false, false, false, false, false, false, false, false, false, false, false, false, false, false, false, false, false, false, false, false, false, false, false, false, false, false, false, false, false, false] rfl rfl (any_of HT_.out (by kernel_rfl)) (fun _ _ _ h => h) (Or.inl ⟨by rfl, ?_⟩) ?_ ?_
        rotate_left
        ·intro w'
         go_simp
         with_reducible rfl
        rotate_left
        ·simp only [Act.put, List.setIfInBounds_toArray, List.set_cons_zero, List.set_cons_succ, i64_w, i32_w]
         rfl
        refine pure_ (i := 5) (N := some 44) (v := ?_) (a' := ?_) #[true, true, true, true, true, true, false, false, false, false, false, false, false, false, false, false, false, false, false, false, false, false, false, false, false, false, false, false, false, false, false, false, false, false, false, false] rfl rfl (any_of HT_.out (by kernel_rfl)) (fun _ _ _ h => h) (Or.inl ⟨by rfl, ?_⟩) ?_ ?_
        rotate_left
        ·intro w'
         go_simp
         with_reducible rfl
        rotate_left
        ·simp only [Act.put, List.setIfInBounds_toArray, List.set_cons_zero, List.set_cons_succ, i64_w, i32_w]
         rfl
        refine pure_ (i := 6) (N := some 45) (v := ?_) (a' := ?_) #[true, true, true, true, true, true, true, false, false, false, false, false, false, false, false, false, false, false, false, false, false, false, false, false, false, false, false, false, false, false, false, false, false, false, false, false] rfl rfl (any_of HT_.out (by kernel_rfl)) (fun _ _ _ h => h) (Or.inl ⟨by rfl, ?_⟩) ?_ ?_
        rotate_left
        ·intro w'
         go_simp
         with_reducible rfl
        rotate_left
        ·simp only [Act.put, List.setIfInBounds_toArray, List.set_cons_zero, List.set_cons_succ, i64_w, i32_w]
         rfl
        refine pure_ (i := 7) (N := some 46) (v := ?_) (a' := ?_) #[true, true, true, true, true, true, true, true, false, false, false, false, false, false, false, false, false, false, false, false, false, false, false, false, false, false, false, false, false, false, false, false, false, false, false, false] rfl rfl (any_of HT_.out (by kernel_rfl)) (fun _ _ _ h => h) (Or.inl ⟨by rfl, ?_⟩) ?_ ?_
        rotate_left
        ·intro w'
         go_simp
         with_reducible rfl
        rotate_left
        ·simp only [Act.put, List.setIfInBounds_toArray, List.set_cons_zero, List.set_cons_succ, i64_w, i32_w]
         rfl
        refine pure_ (i := 8) (N := some 47) (v := ?_) (a' := ?_) #[true, true, true, true, true, true, true, true, true, false, false, false, false, false, false, false, false, false, false, false, false, false, false, false, false, false, false, false, false, false, false, false, false, false, false, false] rfl rfl (any_of HT_.out (by kernel_rfl)) (fun _ _ _ h => h) (Or.inl ⟨by rfl, ?_⟩) ?_ ?_
        rotate_left
        ·intro w'
         go_simp
         with_reducible rfl
        rotate_left
        ·simp only [Act.put, List.setIfInBounds_toArray, List.set_cons_zero, List.set_cons_succ, i64_w, i32_w]
         rfl
        refine take_ (i := 9) (N := some 48) (v := ?_) (a' := ?_) #[true, true, true, true, true, true, true, true, true, true, false, false, false, false, false, false, false, false, false, false, false, false, false, false, false, false, false, false, false, false, false, false, false, false, false, false] rfl rfl (take_ofW HT_.out HW_.out (by kernel_rfl)) (fun _ _ _ h => h) (Or.inl ⟨by rfl, ?_⟩) hHeld ?_ ?_
        rotate_left
        ·rintro w' ⟨s0, s1, s2, s3, s4, s5, s6, s7, s8, s9, s10, s11, s12, s13, s14, s15, s16, s17⟩
         go_simp
         with_reducible rfl
        rotate_left
        ·simp only [Act.put, List.setIfInBounds_toArray, List.set_cons_zero, List.set_cons_succ, i64_w, i32_w]
         rfl
        refine take_ (i := 10) (N := some 49) (v := ?_) (a' := ?_) #[true, true, true, true, true, true, true, true, true, true, true, false, false, false, false, false, false, false, false, false, false, false, false, false, false, false, false, false, false, false, false, false, false, false, false, false] rfl rfl (take_ofW HT_.out HW_.out (by kernel_rfl)) (fun _ _ _ h => h) (Or.inl ⟨by rfl, ?_⟩) hHeld ?_ ?_
        rotate_left
        ·rintro w' ⟨s0, s1, s2, s3, s4, s5, s6, s7, s8, s9, s10, s11, s12, s13, s14, s15, s16, s17⟩
         go_simp
         with_reducible rfl
        rotate_left
        ·simp only [Act.put, List.setIfInBounds_toArray, List.set_cons_zero, List.set_cons_succ, i64_w, i32_w]
         rfl
        refine one_ (i := 11) (N := some 50) #[true, true, true, true, true, true, true, true, true, true, true, true, false, false, false, false, false, false, false, false, false, false, false, false, false, false, false, false, false, false, false, false, false, false, false, false] rfl rfl (one_of HT_.out (by kernel_rfl)) (by decide) (fun K hK => ?_)
        refine goes_ Try.func13 (by kernel_rfl) rfl #[.agg #[.int .i64 t447, .slice Ao53 t448.length co53, .bool t451], .agg #[.int .i64 t454, .slice Ao63 t455.length co63, .bool t458]] (by rfl) rfl rfl (by (try simp only [List.map_toArray, List.map_cons, List.map_nil]); first | done | rfl | (simp only [List.length_drop, List.length_take]; rfl)) ?_
        with_reducible refine (sequiturbase_Ineq.calls k t447 _ _ t448 t451 t454 _ _ t455 t458 true _ ?side1 ?side2 ?side3 ?side4 A12.out).mono ?_
        (case side1 => repeat (first | exact (Kd.R_reads' HO450.out).2.2 | (with_reducible refine cA ?_ _) | (with_reducible refine cN ?_ _) | (with_reducible refine cD ?_)))
        (case side2 => exact (Kd.R_reads' HO450.out).2.1)
        (case side3 => repeat (first | exact (Kd.V_reads' HO457.out).2.2 | (with_reducible refine cA ?_ _) | (with_reducible refine cN ?_ _) | (with_reducible refine cD ?_)))
        (case side4 => exact (Kd.V_reads' HO457.out).2.1)
        rintro e w67 ⟨rfl, hb⟩
        refine ⟨_, rfl, ?_⟩
        replace HO0_1 := zK (Kd.V_below (zv HO0_1) hb)
        replace HO1_1 := zK (Kd.V_below (zv HO1_1) hb)
        replace HO430 := zK (Kd.N_below (zn HO430) hb)
        replace HO436 := zK (Kd.R_below (zr HO436) hb)
        replace HO443 := zK (Kd.R_below (zr HO443) hb)
        replace HO450 := zK (Kd.R_below (zr HO450) hb)
        replace HO457 := zK (Kd.V_below (zv HO457) hb)
        replace BK426 := zK (blk_below (g := gb426) (o := .cells #[.int .i64 a0_0, .slice A0_1 l0_1.length c0_1, .bool a0_2] 30 (0, 0)) (zb BK426) hb)
        replace BK427 := zK (blk_below (g := gb427) (o := .cells #[.int .i64 a1_0, .slice A1_1 l1_1.length c1_1, .bool a1_2] 30 (0, 0)) (zb BK427) hb)
        replace BK439 := zK (blk_below (g := gb439) (o := .cells #[.int .i64 t433, .slice Ao35 t434.length co35, .bool t437] 30 (0, 0)) (zb BK439) hb)
        replace BK446 := zK (blk_below (g := gb446) (o := .cells #[.int .i64 t440, .slice Ao44 t441.length co44, .bool t444] 30 (0, 0)) (zb BK446) hb)
        replace BK453 := zK (blk_below (g := gb453) (o := .cells #[.int .i64 t447, .slice Ao53 t448.length co53, .bool t451] 30 (0, 0)) (zb BK453) hb)
        replace BK460 := zK (blk_below (g := gb460) (o := .cells #[.int .i64 t454, .slice Ao63 t455.length co63, .bool t458] 30 (0, 0)) (zb BK460) hb)
        replace HB := zK (below_step (zo HB) hb)
        (try clear hb)
        (try clear hb2)
        (try clear hk)
        (try clear hi)
        refine hK.out _ _ ⟨(blk_cell BK439.out 0).trans rfl, (blk_cell BK439.out 1).trans rfl, (blk_cell BK439.out 2).trans rfl, (blk_cell BK446.out 0).trans rfl, (blk_cell BK446.out 1).trans rfl, (blk_cell BK446.out 2).trans rfl, (blk_cell BK453.out 0).trans rfl, (blk_cell BK453.out 1).trans rfl, (blk_cell BK453.out 2).trans rfl, (blk_cell BK460.out 0).trans rfl, (blk_cell BK460.out 1).trans rfl, (blk_cell BK460.out 2).trans rfl, (blk_cell BK426.out 0).trans rfl, (blk_cell BK426.out 1).trans rfl, (blk_cell BK426.out 2).trans rfl, (blk_cell BK427.out 0).trans rfl, (blk_cell BK427.out 1).trans rfl, (blk_cell BK427.out 2).trans rfl⟩ (fun hHeld => ?_)
        clear hK K
        refine norm_ (a' := ?_) ?_ ?_
        rotate_left
        ·show Act.put _ (some 50) _ = _
         simp only [Act.put, List.setIfInBounds_toArray, List.set_cons_zero, List.set_cons_succ, i64_w, i32_w]
         rfl
        refine pure_ (i := 12) (N := some 51) (v := ?_) (a' := ?_) #[true, true, true, true, true, true, true, true, true, true, true, true, true, false, false, false, false, false, false, false, false, false, false, false, false, false, false, false, false, false, false, false, false, false, false, false] rfl rfl (any_of HT_.out (by kernel_rfl)) (fun _ _ _ h => h) (Or.inl ⟨by rfl, ?_⟩) ?_ ?_
        rotate_left
        ·intro w'
         go_simp
         with_reducible rfl
        rotate_left
        ·simp only [Act.put, List.setIfInBounds_toArray, List.set_cons_zero, List.set_cons_succ, i64_w, i32_w]
         rfl
        refine pure_ (i := 13) (N := some 52) (v := ?_) (a' := ?_) #[true, true, true, true, true, true, true, true, true, true, true, true, true, true, false, false, false, false, false, false, false, false, false, false, false, false, false, false, false, false, false, false, false, false, false, false] rfl rfl (any_of HT_.out (by kernel_rfl)) (fun _ _ _ h => h) (Or.inl ⟨by rfl, ?_⟩) ?_ ?_
        rotate_left
        ·intro w'
         go_simp
         with_reducible rfl
        rotate_left
        ·simp only [Act.put, List.setIfInBounds_toArray, List.set_cons_zero, List.set_cons_succ, i64_w, i32_w]
         rfl
        refine pure_ (i := 14) (N := some 53) (v := ?_) (a' := ?_) #[true, true, true, true, true, true, true, true, true, true, true, true, true, true, true, false, false, false, false, false, false, false, false, false, false, false, false, false, false, false, false, false, false, false, false, false] rfl rfl (any_of HT_.out (by kernel_rfl)) (fun _ _ _ h => h) (Or.inl ⟨by rfl, ?_⟩) ?_ ?_
        rotate_left
        ·intro w'
         go_simp
         with_reducible rfl
        rotate_left
        ·simp only [Act.put, List.setIfInBounds_toArray, List.set_cons_zero, List.set_cons_succ, i64_w, i32_w]
         rfl
        refine pure_ (i := 15) (N := some 54) (v := ?_) (a' := ?_) #[true, true, true, true, true, true, true, true, true, true, true, true, true, true, true, true, false, false, false, false, false, false, false, false, false, false, false, false, false, false, false, false, false, false, false, false] rfl rfl (any_of HT_.out (by kernel_rfl)) (fun _ _ _ h => h) (Or.inl ⟨by rfl, ?_⟩) ?_ ?_
        rotate_left
        ·intro w'
         go_simp
         with_reducible rfl
        rotate_left
        ·simp only [Act.put, List.setIfInBounds_toArray, List.set_cons_zero, List.set_cons_succ, i64_w, i32_w]
         rfl
        refine pure_ (i := 16) (N := some 55) (v := ?_) (a' := ?_) #[true, true, true, true, true, true, true, true, true, true, true, true, true, true, true, true, true, false, false, false, false, false, false, false, false, false, false, false, false, false, false, false, false, false, false, false] rfl rfl (any_of HT_.out (by kernel_rfl)) (fun _ _ _ h => h) (Or.inl ⟨by rfl, ?_⟩) ?_ ?_
        rotate_left
        ·intro w'
         go_simp
         with_reducible rfl
        rotate_left
        ·simp only [Act.put, List.setIfInBounds_toArray, List.set_cons_zero, List.set_cons_succ, i64_w, i32_w]
         rfl
        refine pure_ (i := 17) (N := some 56) (v := ?_) (a' := ?_) #[true, true, true, true, true, true, true, true, true, true, true, true, true, true, true, true, true, true, false, false, false, false, false, false, false, false, false, false, false, false, false, false, false, false, false, false] rfl rfl (any_of HT_.out (by kernel_rfl)) (fun _ _ _ h => h) (Or.inl ⟨by rfl, ?_⟩) ?_ ?_
        rotate_left
        ·intro w'
         go_simp
         with_reducible rfl
        rotate_left
        ·simp only [Act.put, List.setIfInBounds_toArray, List.set_cons_zero, List.set_cons_succ, i64_w, i32_w]
         rfl
        refine pure_ (i := 18) (N := some 57) (v := ?_) (a' := ?_) #[true, true, true, true, true, true, true, true, true, true, true, true, true, true, true, true, true, true, true, false, false, false, false, false, false, false, false, false, false, false, false, false, false, false, false, false] rfl rfl (any_of HT_.out (by kernel_rfl)) (fun _ _ _ h => h) (Or.inl ⟨by rfl, ?_⟩) ?_ ?_
        rotate_left
        ·intro w'
         go_simp
         with_reducible rfl
        rotate_left
        ·simp only [Act.put, List.setIfInBounds_toArray, List.set_cons_zero, List.set_cons_succ, i64_w, i32_w]
         rfl
        refine take_ (i := 19) (N := some 58) (v := ?_) (a' := ?_) #[true, true, true, true, true, true, true, true, true, true, true, true, true, true, true, true, true, true, true, true, false, false, false, false, false, false, false, false, false, false, false, false, false, false, false, false] rfl rfl (take_ofW HT_.out HW_.out (by kernel_rfl)) (fun _ _ _ h => h) (Or.inl ⟨by rfl, ?_⟩) hHeld ?_ ?_
        rotate_left
        ·rintro w' ⟨s0, s1, s2, s3, s4, s5, s6, s7, s8, s9, s10, s11, s12, s13, s14, s15, s16, s17⟩
         go_simp
         with_reducible rfl
        rotate_left
        ·simp only [Act.put, List.setIfInBounds_toArray, List.set_cons_zero, List.set_cons_succ, i64_w, i32_w]
         rfl
        refine take_ (i := 20) (N := some 59) (v := ?_) (a' := ?_) #[true, true, true, true, true, true, true, true, true, true, true, true, true, true, true, true, true, true, true, true, true, false, false, false, false, false, false, false, false, false, false, false, false, false, false, false] rfl rfl (take_ofW HT_.out HW_.out (by kernel_rfl)) (fun _ _ _ h => h) (Or.inl ⟨by rfl, ?_⟩) hHeld ?_ ?_
        rotate_left
        ·rintro w' ⟨s0, s1, s2, s3, s4, s5, s6, s7, s8, s9, s10, s11, s12, s13, s14, s15, s16, s17⟩
         go_simp
         with_reducible rfl
        rotate_left
        ·simp only [Act.put, List.setIfInBounds_toArray, List.set_cons_zero, List.set_cons_succ, i64_w, i32_w]
         rfl
        refine take_ (i := 22) (N := some 61) (v := ?_) (a' := ?_) #[true, true, true, true, true, true, true, true, true, true, true, true, true, true, true, true, true, true, true, true, true, false, true, false, false, false, false, false, false, false, false, false, false, false, false, false] rfl rfl (take_ofW HT_.out HW_.out (by kernel_rfl)) (fun _ _ _ h => h) (Or.inl ⟨by rfl, ?_⟩) hHeld ?_ ?_
        rotate_left
        ·rintro w' ⟨s0, s1, s2, s3, s4, s5, s6, s7, s8, s9, s10, s11, s12, s13, s14, s15, s16, s17⟩
         go_simp
         with_reducible rfl
        rotate_left
        ·simp only [Act.put, List.setIfInBounds_toArray, List.set_cons_zero, List.set_cons_succ, i64_w, i32_w]
         rfl
        refine take_ (i := 23) (N := some 62) (v := ?_) (a' := ?_) #[true, true, true, true, true, true, true, true, true, true, true, true, true, true, true, true, true, true, true, true, true, false, true, true, false, false, false, false, false, false, false, false, false, false, false, false] rfl rfl (take_ofW HT_.out HW_.out (by kernel_rfl)) (fun _ _ _ h => h) (Or.inl ⟨by rfl, ?_⟩) hHeld ?_ ?_
        rotate_left
        ·rintro w' ⟨s0, s1, s2, s3, s4, s5, s6, s7, s8, s9, s10, s11, s12, s13, s14, s15, s16, s17⟩
         go_simp
         with_reducible rfl
        rotate_left
        ·simp only [Act.put, List.setIfInBounds_toArray, List.set_cons_zero, List.set_cons_succ, i64_w, i32_w]
         rfl
        refine one_ (i := 21) (N := some 60) #[true, true, true, true, true, true, true, true, true, true, true, true, true, true, true, true, true, true, true, true, true, true, true, true, false, false, false, false, false, false, false, false, false, false, false, false] rfl rfl (one_of HT_.out (by kernel_rfl)) (by decide) (fun K hK => ?_)
        refine goes_ Try.func26 (by kernel_rfl) rfl #[.agg #[.int .i64 a0_0, .slice A0_1 l0_1.length c0_1, .bool a0_2], .agg #[.int .i64 a1_0, .slice A1_1 l1_1.length c1_1, .bool a1_2]] (by rfl) rfl rfl (by (try simp only [List.map_toArray, List.map_cons, List.map_nil]); first | done | rfl | (simp only [List.length_drop, List.length_take]; rfl)) ?_
        with_reducible refine (ineq_Same.calls k a0_0 _ _ l0_1 a0_2 a1_0 _ _ l1_1 a1_2 t463 _ ?side1 ?side2 ?side3 ?side4 A15.out).mono ?_
        (case side1 => repeat (first | exact (Kd.V_reads' HO0_1.out).2.2 | (with_reducible refine cA ?_ _) | (with_reducible refine cN ?_ _) | (with_reducible refine cD ?_)))
        (case side2 => exact (Kd.V_reads' HO0_1.out).2.1)
        (case side3 => repeat (first | exact (Kd.V_reads' HO1_1.out).2.2 | (with_reducible refine cA ?_ _) | (with_reducible refine cN ?_ _) | (with_reducible refine cD ?_)))
        (case side4 => exact (Kd.V_reads' HO1_1.out).2.1)
        rintro e w68 ⟨rfl, hb⟩
        refine ⟨_, rfl, ?_⟩
        replace HO0_1 := zK (Kd.V_below (zv HO0_1) hb)
        replace HO1_1 := zK (Kd.V_below (zv HO1_1) hb)
        replace HO430 := zK (Kd.N_below (zn HO430) hb)
        replace HO436 := zK (Kd.R_below (zr HO436) hb)
        replace HO443 := zK (Kd.R_below (zr HO443) hb)
        replace HO450 := zK (Kd.R_below (zr HO450) hb)
        replace HO457 := zK (Kd.V_below (zv HO457) hb)
        replace BK426 := zK (blk_below (g := gb426) (o := .cells #[.int .i64 a0_0, .slice A0_1 l0_1.length c0_1, .bool a0_2] 30 (0, 0)) (zb BK426) hb)
        replace BK427 := zK (blk_below (g := gb427) (o := .cells #[.int .i64 a1_0, .slice A1_1 l1_1.length c1_1, .bool a1_2] 30 (0, 0)) (zb BK427) hb)
        replace BK439 := zK (blk_below (g := gb439) (o := .cells #[.int .i64 t433, .slice Ao35 t434.length co35, .bool t437] 30 (0, 0)) (zb BK439) hb)
        replace BK446 := zK (blk_below (g := gb446) (o := .cells #[.int .i64 t440, .slice Ao44 t441.length co44, .bool t444] 30 (0, 0)) (zb BK446) hb)
        replace BK453 := zK (blk_below (g := gb453) (o := .cells #[.int .i64 t447, .slice Ao53 t448.length co53, .bool t451] 30 (0, 0)) (zb BK453) hb)
        replace BK460 := zK (blk_below (g := gb460) (o := .cells #[.int .i64 t454, .slice Ao63 t455.length co63, .bool t458] 30 (0, 0)) (zb BK460) hb)
        replace HB := zK (below_step (zo HB) hb)
        (try clear hb)
        (try clear hb2)
        (try clear hk)
        (try clear hi)
        refine hK.out _ _ ⟨(blk_cell BK439.out 0).trans rfl, (blk_cell BK439.out 1).trans rfl, (blk_cell BK439.out 2).trans rfl, (blk_cell BK446.out 0).trans rfl, (blk_cell BK446.out 1).trans rfl, (blk_cell BK446.out 2).trans rfl, (blk_cell BK453.out 0).trans rfl, (blk_cell BK453.out 1).trans rfl, (blk_cell BK453.out 2).trans rfl, (blk_cell BK460.out 0).trans rfl, (blk_cell BK460.out 1).trans rfl, (blk_cell BK460.out 2).trans rfl, (blk_cell BK426.out 0).trans rfl, (blk_cell BK426.out 1).trans rfl, (blk_cell BK426.out 2).trans rfl, (blk_cell BK427.out 0).trans rfl, (blk_cell BK427.out 1).trans rfl, (blk_cell BK427.out 2).trans rfl⟩ (fun hHeld => ?_)
        clear hK K
        refine norm_ (a' := ?_) ?_ ?_
        rotate_left
        ·show Act.put _ (some 60) _ = _
         simp only [Act.put, List.setIfInBounds_toArray, List.set_cons_zero, List.set_cons_succ, i64_w, i32_w]
         rfl
        refine one_ (i := 24) (N := some 63) #[true, true, true, true, true, true, true, true, true, true, true, true, true, true, true, true, true, true, true, true, true, true, true, true, true, false, false, false, false, false, false, false, false, false, false, false] rfl rfl (one_of HT_.out (by kernel_rfl)) (by decide) (fun K hK => ?_)
        refine goes_ Try.func13 (by kernel_rfl) rfl #[.agg #[.int .i64 a0_0, .slice A0_1 l0_1.length c0_1, .bool a0_2], .agg #[.int .i64 a1_0, .slice A1_1 l1_1.length c1_1, .bool a1_2]] (by rfl) rfl rfl (by (try simp only [List.map_toArray, List.map_cons, List.map_nil]); first | done | rfl | (simp only [List.length_drop, List.length_take]; rfl)) ?_
        with_reducible refine (sequiturbase_Ineq.calls k a0_0 _ _ l0_1 a0_2 a1_0 _ _ l1_1 a1_2 t464 _ ?side1 ?side2 ?side3 ?side4 A16.out).mono ?_
        (case side1 => repeat (first | exact (Kd.V_reads' HO0_1.out).2.2 | (with_reducible refine cA ?_ _) | (with_reducible refine cN ?_ _) | (with_reducible refine cD ?_)))
        (case side2 => exact (Kd.V_reads' HO0_1.out).2.1)
        (case side3 => repeat (first | exact (Kd.V_reads' HO1_1.out).2.2 | (with_reducible refine cA ?_ _) | (with_reducible refine cN ?_ _) | (with_reducible refine cD ?_)))
        (case side4 => exact (Kd.V_reads' HO1_1.out).2.1)
        rintro e w69 ⟨rfl, hb⟩
        refine ⟨_, rfl, ?_⟩
        replace HO0_1 := zK (Kd.V_below (zv HO0_1) hb)
        replace HO1_1 := zK (Kd.V_below (zv HO1_1) hb)
        replace HO430 := zK (Kd.N_below (zn HO430) hb)
        replace HO436 := zK (Kd.R_below (zr HO436) hb)
        replace HO443 := zK (Kd.R_below (zr HO443) hb)
        replace HO450 := zK (Kd.R_below (zr HO450) hb)
        replace HO457 := zK (Kd.V_below (zv HO457) hb)
        replace BK426 := zK (blk_below (g := gb426) (o := .cells #[.int .i64 a0_0, .slice A0_1 l0_1.length c0_1, .bool a0_2] 30 (0, 0)) (zb BK426) hb)
        replace BK427 := zK (blk_below (g := gb427) (o := .cells #[.int .i64 a1_0, .slice A1_1 l1_1.length c1_1, .bool a1_2] 30 (0, 0)) (zb BK427) hb)
        replace BK439 := zK (blk_below (g := gb439) (o := .cells #[.int .i64 t433, .slice Ao35 t434.length co35, .bool t437] 30 (0, 0)) (zb BK439) hb)
        replace BK446 := zK (blk_below (g := gb446) (o := .cells #[.int .i64 t440, .slice Ao44 t441.length co44, .bool t444] 30 (0, 0)) (zb BK446) hb)
        replace BK453 := zK (blk_below (g := gb453) (o := .cells #[.int .i64 t447, .slice Ao53 t448.length co53, .bool t451] 30 (0, 0)) (zb BK453) hb)
        replace BK460 := zK (blk_below (g := gb460) (o := .cells #[.int .i64 t454, .slice Ao63 t455.length co63, .bool t458] 30 (0, 0)) (zb BK460) hb)
        replace HB := zK (below_step (zo HB) hb)
        (try clear hb)
        (try clear hb2)
        (try clear hk)
        (try clear hi)
        refine hK.out _ _ ⟨(blk_cell BK439.out 0).trans rfl, (blk_cell BK439.out 1).trans rfl, (blk_cell BK439.out 2).trans rfl, (blk_cell BK446.out 0).trans rfl, (blk_cell BK446.out 1).trans rfl, (blk_cell BK446.out 2).trans rfl, (blk_cell BK453.out 0).trans rfl, (blk_cell BK453.out 1).trans rfl, (blk_cell BK453.out 2).trans rfl, (blk_cell BK460.out 0).trans rfl, (blk_cell BK460.out 1).trans rfl, (blk_cell BK460.out 2).trans rfl, (blk_cell BK426.out 0).trans rfl, (blk_cell BK426.out 1).trans rfl, (blk_cell BK426.out 2).trans rfl, (blk_cell BK427.out 0).trans rfl, (blk_cell BK427.out 1).trans rfl, (blk_cell BK427.out 2).trans rfl⟩ (fun hHeld => ?_)
        clear hK K
        refine norm_ (a' := ?_) ?_ ?_
        rotate_left
        ·show Act.put _ (some 63) _ = _
         simp only [Act.put, List.setIfInBounds_toArray, List.set_cons_zero, List.set_cons_succ, i64_w, i32_w]
         rfl
        refine pure_ (i := 25) (N := some 64) (v := ?_) (a' := ?_) #[true, true, true, true, true, true, true, true, true, true, true, true, true, true, true, true, true, true, true, true, true, true, true, true, true, true, false, false, false, false, false, false, false, false, false, false] rfl rfl (any_of HT_.out (by kernel_rfl)) (fun _ _ _ h => h) (Or.inl ⟨by rfl, ?_⟩) ?_ ?_
        rotate_left
        ·intro w'
         go_simp
         with_reducible rfl
        rotate_left
        ·simp only [Act.put, List.setIfInBounds_toArray, List.set_cons_zero, List.set_cons_succ, i64_w, i32_w]
         rfl
        refine pure_ (i := 26) (N := some 65) (v := ?_) (a' := ?_) #[true, true, true, true, true, true, true, true, true, true, true, true, true, true, true, true, true, true, true, true, true, true, true, true, true, true, true, false, false, false, false, false, false, false, false, false] rfl rfl (any_of HT_.out (by kernel_rfl)) (fun _ _ _ h => h) (Or.inl ⟨by rfl, ?_⟩) ?_ ?_
        rotate_left
        ·intro w'
         go_simp
         with_reducible rfl
        rotate_left
        ·simp only [Act.put, List.setIfInBounds_toArray, List.set_cons_zero, List.set_cons_succ, i64_w, i32_w]
         rfl
        refine pure_ (i := 27) (N := some 66) (v := ?_) (a' := ?_) #[true, true, true, true, true, true, true, true, true, true, true, true, true, true, true, true, true, true, true, true, true, true, true, true, true, true, true, true, false, false, false, false, false, false, false, false] rfl rfl (any_of HT_.out (by kernel_rfl)) (fun _ _ _ h => h) (Or.inl ⟨by rfl, ?_⟩) ?_ ?_
        rotate_left
        ·intro w'
         go_simp
         with_reducible rfl
        rotate_left
        ·simp only [Act.put, List.setIfInBounds_toArray, List.set_cons_zero, List.set_cons_succ, i64_w, i32_w]
         rfl
        refine take_ (i := 28) (N := some 67) (v := ?_) (a' := ?_) #[true, true, true, true, true, true, true, true, true, true, true, true, true, true, true, true, true, true, true, true, true, true, true, true, true, true, true, true, true, false, false, false, false, false, false, false] rfl rfl (take_ofW HT_.out HW_.out (by kernel_rfl)) (fun _ _ _ h => h) (Or.inl ⟨by rfl, ?_⟩) hHeld ?_ ?_
        rotate_left
        ·rintro w' ⟨s0, s1, s2, s3, s4, s5, s6, s7, s8, s9, s10, s11, s12, s13, s14, s15, s16, s17⟩
         go_simp
         with_reducible rfl
        rotate_left
        ·simp only [Act.put, List.setIfInBounds_toArray, List.set_cons_zero, List.set_cons_succ, i64_w, i32_w]
         rfl
        refine take_ (i := 29) (N := some 68) (v := ?_) (a' := ?_) #[true, true, true, true, true, true, true, true, true, true, true, true, true, true, true, true, true, true, true, true, true, true, true, true, true, true, true, true, true, true, false, false, false, false, false, false] rfl rfl (take_ofW HT_.out HW_.out (by kernel_rfl)) (fun _ _ _ h => h) (Or.inl ⟨by rfl, ?_⟩) hHeld ?_ ?_
        rotate_left
        ·rintro w' ⟨s0, s1, s2, s3, s4, s5, s6, s7, s8, s9, s10, s11, s12, s13, s14, s15, s16, s17⟩
         go_simp
         with_reducible rfl
        rotate_left
        ·simp only [Act.put, List.setIfInBounds_toArray, List.set_cons_zero, List.set_cons_succ, i64_w, i32_w]
         rfl
        refine one_ (i := 30) (N := some 69) #[true, true, true, true, true, true, true, true, true, true, true, true, true, true, true, true, true, true, true, true, true, true, true, true, true, true, true, true, true, true, true, false, false, false, false, false] rfl rfl (one_of HT_.out (by kernel_rfl)) (by decide) (fun K hK => ?_)
        refine goes_ Try.func26 (by kernel_rfl) rfl #[.agg #[.int .i64 a0_0, .slice A0_1 l0_1.length c0_1, .bool a0_2], .agg #[.int .i64 a0_0, .slice A0_1 l0_1.length c0_1, .bool a0_2]] (by rfl) rfl rfl (by (try simp only [List.map_toArray, List.map_cons, List.map_nil]); first | done | rfl | (simp only [List.length_drop, List.length_take]; rfl)) ?_
        with_reducible refine (ineq_Same.calls k a0_0 _ _ l0_1 a0_2 a0_0 _ _ l0_1 a0_2 true _ ?side1 ?side2 ?side3 ?side4 A18.out).mono ?_
        (case side1 => repeat (first | exact (Kd.V_reads' HO0_1.out).2.2 | (with_reducible refine cA ?_ _) | (with_reducible refine cN ?_ _) | (with_reducible refine cD ?_)))
        (case side2 => exact (Kd.V_reads' HO0_1.out).2.1)
        (case side3 => repeat (first | exact (Kd.V_reads' HO0_1.out).2.2 | (with_reducible refine cA ?_ _) | (with_reducible refine cN ?_ _) | (with_reducible refine cD ?_)))
        (case side4 => exact (Kd.V_reads' HO0_1.out).2.1)
        rintro e w70 ⟨rfl, hb⟩
        refine ⟨_, rfl, ?_⟩
        replace HO0_1 := zK (Kd.V_below (zv HO0_1) hb)
        replace HO1_1 := zK (Kd.V_below (zv HO1_1) hb)
        replace HO430 := zK (Kd.N_below (zn HO430) hb)
        replace HO436 := zK (Kd.R_below (zr HO436) hb)
        replace HO443 := zK (Kd.R_below (zr HO443) hb)
        replace HO450 := zK (Kd.R_below (zr HO450) hb)
        replace HO457 := zK (Kd.V_below (zv HO457) hb)
        replace BK426 := zK (blk_below (g := gb426) (o := .cells #[.int .i64 a0_0, .slice A0_1 l0_1.length c0_1, .bool a0_2] 30 (0, 0)) (zb BK426) hb)
        replace BK427 := zK (blk_below (g := gb427) (o := .cells #[.int .i64 a1_0, .slice A1_1 l1_1.length c1_1, .bool a1_2] 30 (0, 0)) (zb BK427) hb)
        replace BK439 := zK (blk_below (g := gb439) (o := .cells #[.int .i64 t433, .slice Ao35 t434.length co35, .bool t437] 30 (0, 0)) (zb BK439) hb)
        replace BK446 := zK (blk_below (g := gb446) (o := .cells #[.int .i64 t440, .slice Ao44 t441.length co44, .bool t444] 30 (0, 0)) (zb BK446) hb)
        replace BK453 := zK (blk_below (g := gb453) (o := .cells #[.int .i64 t447, .slice Ao53 t448.length co53, .bool t451] 30 (0, 0)) (zb BK453) hb)
        replace BK460 := zK (blk_below (g := gb460) (o := .cells #[.int .i64 t454, .slice Ao63 t455.length co63, .bool t458] 30 (0, 0)) (zb BK460) hb)
        replace HB := zK (below_step (zo HB) hb)
        (try clear hb)
        (try clear hb2)
        (try clear hk)
        (try clear hi)
        refine hK.out _ _ ⟨(blk_cell BK439.out 0).trans rfl, (blk_cell BK439.out 1).trans rfl, (blk_cell BK439.out 2).trans rfl, (blk_cell BK446.out 0).trans rfl, (blk_cell BK446.out 1).trans rfl, (blk_cell BK446.out 2).trans rfl, (blk_cell BK453.out 0).trans rfl, (blk_cell BK453.out 1).trans rfl, (blk_cell BK453.out 2).trans rfl, (blk_cell BK460.out 0).trans rfl, (blk_cell BK460.out 1).trans rfl, (blk_cell BK460.out 2).trans rfl, (blk_cell BK426.out 0).trans rfl, (blk_cell BK426.out 1).trans rfl, (blk_cell BK426.out 2).trans rfl, (blk_cell BK427.out 0).trans rfl, (blk_cell BK427.out 1).trans rfl, (blk_cell BK427.out 2).trans rfl⟩ (fun hHeld => ?_)
        clear hK K
        refine norm_ (a' := ?_) ?_ ?_
        rotate_left
        ·show Act.put _ (some 69) _ = _
         simp only [Act.put, List.setIfInBounds_toArray, List.set_cons_zero, List.set_cons_succ, i64_w, i32_w]
         rfl
        refine pure_ (i := 31) (N := some 70) (v := ?_) (a' := ?_) #[true, true, true, true, true, true, true, true, true, true, true, true, true, true, true, true, true, true, true, true, true, true, true, true, true, true, true, true, true, true, true, true, false, false, false, false] rfl rfl (any_of HT_.out (by kernel_rfl)) (fun _ _ _ h => h) (Or.inl ⟨by rfl, ?_⟩) ?_ ?_
        rotate_left
        ·intro w'
         go_simp
         with_reducible rfl
        rotate_left
        ·simp only [Act.put, List.setIfInBounds_toArray, List.set_cons_zero, List.set_cons_succ, i64_w, i32_w]
         rfl
        refine pure_ (i := 32) (N := some 71) (v := ?_) (a' := ?_) #[true, true, true, true, true, true, true, true, true, true, true, true, true, true, true, true, true, true, true, true, true, true, true, true, true, true, true, true, true, true, true, true, true, false, false, false] rfl rfl (any_of HT_.out (by kernel_rfl)) (fun _ _ _ h => h) (Or.inl ⟨by rfl, ?_⟩) ?_ ?_
        rotate_left
        ·intro w'
         go_simp
         with_reducible rfl
        rotate_left
        ·simp only [Act.put, List.setIfInBounds_toArray, List.set_cons_zero, List.set_cons_succ, i64_w, i32_w]
         rfl
        refine one_ (i := 33) (N := some 72) #[true, true, true, true, true, true, true, true, true, true, true, true, true, true, true, true, true, true, true, true, true, true, true, true, true, true, true, true, true, true, true, true, true, true, false, false] rfl rfl (one_of HT_.out (by kernel_rfl)) (by decide) (fun K hK => ?_)
        refine goes_ Try.func10 (by kernel_rfl) rfl #[] (by rfl) rfl rfl (by (try simp only [List.map_toArray, List.map_cons, List.map_nil]); first | done | rfl | (simp only [List.length_drop, List.length_take]; rfl)) ?_
        with_reducible refine (sequiturlaw28_goes.calls k  t466 _ A20.out).mono ?_
        rintro e w71 ⟨rfl, hb⟩
        refine ⟨_, rfl, ?_⟩
        replace HO0_1 := zK (Kd.V_below (zv HO0_1) hb)
        replace HO1_1 := zK (Kd.V_below (zv HO1_1) hb)
        replace HO430 := zK (Kd.N_below (zn HO430) hb)
        replace HO436 := zK (Kd.R_below (zr HO436) hb)
        replace HO443 := zK (Kd.R_below (zr HO443) hb)
        replace HO450 := zK (Kd.R_below (zr HO450) hb)
        replace HO457 := zK (Kd.V_below (zv HO457) hb)
        replace BK426 := zK (blk_below (g := gb426) (o := .cells #[.int .i64 a0_0, .slice A0_1 l0_1.length c0_1, .bool a0_2] 30 (0, 0)) (zb BK426) hb)
        replace BK427 := zK (blk_below (g := gb427) (o := .cells #[.int .i64 a1_0, .slice A1_1 l1_1.length c1_1, .bool a1_2] 30 (0, 0)) (zb BK427) hb)
        replace BK439 := zK (blk_below (g := gb439) (o := .cells #[.int .i64 t433, .slice Ao35 t434.length co35, .bool t437] 30 (0, 0)) (zb BK439) hb)
        replace BK446 := zK (blk_below (g := gb446) (o := .cells #[.int .i64 t440, .slice Ao44 t441.length co44, .bool t444] 30 (0, 0)) (zb BK446) hb)
        replace BK453 := zK (blk_below (g := gb453) (o := .cells #[.int .i64 t447, .slice Ao53 t448.length co53, .bool t451] 30 (0, 0)) (zb BK453) hb)
        replace BK460 := zK (blk_below (g := gb460) (o := .cells #[.int .i64 t454, .slice Ao63 t455.length co63, .bool t458] 30 (0, 0)) (zb BK460) hb)
        replace HB := zK (below_step (zo HB) hb)
        (try clear hb)
        (try clear hb2)
        (try clear hk)
        (try clear hi)
        refine hK.out _ _ ⟨(blk_cell BK439.out 0).trans rfl, (blk_cell BK439.out 1).trans rfl, (blk_cell BK439.out 2).trans rfl, (blk_cell BK446.out 0).trans rfl, (blk_cell BK446.out 1).trans rfl, (blk_cell BK446.out 2).trans rfl, (blk_cell BK453.out 0).trans rfl, (blk_cell BK453.out 1).trans rfl, (blk_cell BK453.out 2).trans rfl, (blk_cell BK460.out 0).trans rfl, (blk_cell BK460.out 1).trans rfl, (blk_cell BK460.out 2).trans rfl, (blk_cell BK426.out 0).trans rfl, (blk_cell BK426.out 1).trans rfl, (blk_cell BK426.out 2).trans rfl, (blk_cell BK427.out 0).trans rfl, (blk_cell BK427.out 1).trans rfl, (blk_cell BK427.out 2).trans rfl⟩ (fun hHeld => ?_)
        clear hK K
        refine norm_ (a' := ?_) ?_ ?_
        rotate_left
        ·show Act.put _ (some 72) _ = _
         simp only [Act.put, List.setIfInBounds_toArray, List.set_cons_zero, List.set_cons_succ, i64_w, i32_w]
         rfl
        refine pure_ (i := 34) (N := some 73) (v := ?_) (a' := ?_) #[true, true, true, true, true, true, true, true, true, true, true, true, true, true, true, true, true, true, true, true, true, true, true, true, true, true, true, true, true, true, true, true, true, true, true, false] rfl rfl (any_of HT_.out (by kernel_rfl)) (fun _ _ _ h => h) (Or.inl ⟨by rfl, ?_⟩) ?_ ?_
        rotate_left
        ·intro w'
         go_simp
         with_reducible rfl
        rotate_left
        ·simp only [Act.put, List.setIfInBounds_toArray, List.set_cons_zero, List.set_cons_succ, i64_w, i32_w]
         rfl
        refine pure_ (i := 35) (N := some 4) (v := ?_) (a' := ?_) #[true, true, true, true, true, true, true, true, true, true, true, true, true, true, true, true, true, true, true, true, true, true, true, true, true, true, true, true, true, true, true, true, true, true, true, true] rfl rfl (any_of HT_.out (by kernel_rfl)) (fun _ _ _ h => h) (Or.inl ⟨by rfl, ?_⟩) ?_ ?_
        rotate_left
        ·intro w'
         go_simp
         with_reducible rfl
        rotate_left
        ·simp only [Act.put, List.setIfInBounds_toArray, List.set_cons_zero, List.set_cons_succ, i64_w, i32_w]
         rfl
        refine done_ (done_of HT_.out (by kernel_rfl)) ?_
        try go_wp2
        go_ret
        exact ⟨by first | rfl | (simp [errW_none, errW_some] <;> rfl) | (simp [*, errW_none, errW_some] <;> rfl), zo HB⟩
       ·replace c19 := Bool.eq_false_iff.mpr c19
        subst c19
        have H1 : (none) = some r := by rw [if_neg (show ¬ (false = true) by decide)] at H; exact H
        clear H
        have H := H1
        clear H1
        exact absurd H (by simp)
      ·rw [if_neg c17] at H
       have c17b0 : (t463 == t464) = false := by simpa using c17
       (try (have c17b1 : decide (t463 = t464) = false := by simpa using c17))
       (try (have c17b2 : (t463 == t464) = false := by simpa using c17))
       (try (have c17b3 : ¬ (t463 = t464) := by simpa using c17))
       clear c17
       exact absurd H (by simp)
     ·rw [if_neg c14] at H
      have c14b0 : (t452 == t459) = false := beq_eq_false_iff_ne.mpr c14
      have c14b1 : (t452 != t459) = true := bne_iff_ne.mpr c14
      exact absurd H (by simp)
    ·replace c13 := Bool.eq_false_iff.mpr c13
     subst c13
     have H1 : (none) = some r := by rw [if_neg (show ¬ (false = true) by decide)] at H; exact H
     clear H
     have H := H1
     clear H1
     exact absurd H (by simp)
   ·rw [if_neg c11] at H
    have c11b0 : (t438 == t445) = false := beq_eq_false_iff_ne.mpr c11
    have c11b1 : (t438 != t445) = true := bne_iff_ne.mpr c11
    exact absurd H (by simp)
  ·replace c10 := Bool.eq_false_iff.mpr c10
   subst c10
   have H1 : (none) = some r := by rw [if_neg (show ¬ (false = true) by decide)] at H; exact H
   clear H
   have H := H1
   clear H1
   exact absurd H (by simp)
 ·replace c4 := Bool.eq_false_iff.mpr c4
  subst c4
  have H1 : ((sequiturlaw28_goes.f k).bind fun t432 => (some t432)) = some r := by rw [if_neg (show ¬ (false = true) by decide)] at H; exact H
  clear H
  have H := H1
  clear H1
  replace H := Option.bind_eq_some_iff.mp H
  obtain ⟨t432, A720, H⟩ := H
  replace H : (some t432) = some r := H
  have A72 := zK A720
  clear A720
  obtain rfl := Option.some.inj H
  go_enter Try.func6, Try.ntmps6
  go_wp2_with (first | ((with_reducible refine gate_dst (N := 2) rfl ?_); refine box_event ?hg (N := 2) ?hd (cs := #[.int .i64 a0_0, .slice A0_1 l0_1.length c0_1, .bool a0_2]) (t := 30) ?hr ?_; (case hd => rfl); (case hg => rfl); (case hr => first | (go_simp; done) | (go_simp; rfl)); intro gb426 hg w73 hbox hb; replace HO0_1 := zK (Kd.V_below (Kd.V_elderB (zv HO0_1) gb426 (Nat.le_of_eq hg.symm)) hb); replace HO1_1 := zK (Kd.V_below (Kd.V_elderB (zv HO1_1) gb426 (Nat.le_of_eq hg.symm)) hb); have BK426 := zK (hbox); have GW426 := zK ((by rw [hg]; exact (below_size (zo HB)) : w.heap.size ≤ gb426)); have GE426 := zK ((by rw [hg]; exact (below_size (zo HB)) : w.heap.size ≤ gb426)); replace HB := zK (below_step (zo HB) hb); clear hb hbox hg) | ((with_reducible refine gate_dst (N := 3) rfl ?_); refine box_event ?hg (N := 3) ?hd (cs := #[.int .i64 a1_0, .slice A1_1 l1_1.length c1_1, .bool a1_2]) (t := 30) ?hr ?_; (case hd => rfl); (case hg => rfl); (case hr => first | (go_simp; done) | (go_simp; rfl)); intro gb427 hg w74 hbox hb; replace HO0_1 := zK (Kd.V_below (Kd.V_elderB (zv HO0_1) gb427 (Nat.le_of_eq hg.symm)) hb); replace HO1_1 := zK (Kd.V_below (Kd.V_elderB (zv HO1_1) gb427 (Nat.le_of_eq hg.symm)) hb); have BK427 := zK (hbox); have GW427 := zK ((by rw [hg]; exact (below_size (zo HB)) : w.heap.size ≤ gb427)); have GE427 := zK ((by rw [hg]; exact (below_size (zo HB)) : w.heap.size ≤ gb427)); replace HB := zK (below_step (zo HB) hb); have NB426_427 := zK ((by rw [hg]; exact Nat.ne_of_lt (blk_lt (g := gb426) (o := .cells #[.int .i64 a0_0, .slice A0_1 l0_1.length c0_1, .bool a0_2] 30 (0, 0)) (zb BK426)) : gb426 ≠ gb427)); have NB427_426 := zK ((by rw [hg]; exact Nat.ne_of_gt (blk_lt (g := gb426) (o := .cells #[.int .i64 a0_0, .slice A0_1 l0_1.length c0_1, .bool a0_2] 30 (0, 0)) (zb BK426)) : gb427 ≠ gb426)); replace BK426 := zK (blk_below (g := gb426) (o := .cells #[.int .i64 a0_0, .slice A0_1 l0_1.length c0_1, .bool a0_2] 30 (0, 0)) (zb BK426) hb); clear hb hbox hg; have hnb75 := NB426_427.out; have hnc75 := NB427_426.out; have hcz76_0 : w74.cell? ⟨gb426, 0, none⟩ = some (.int .i64 a0_0) := (blk_cell BK426.out 0).trans rfl; have hcz76_1 : w74.cell? ⟨gb426, 1, none⟩ = some (.slice A0_1 l0_1.length c0_1) := (blk_cell BK426.out 1).trans rfl; have hcz76_2 : w74.cell? ⟨gb426, 2, none⟩ = some (.bool a0_2) := (blk_cell BK426.out 2).trans rfl; have hfz76_0 := blk_frozen BK426.out 0; have hfz76_1 := blk_frozen BK426.out 1; have hfz76_2 := blk_frozen BK426.out 2; have hcz77_0 : w74.cell? ⟨gb427, 0, none⟩ = some (.int .i64 a1_0) := (blk_cell BK427.out 0).trans rfl; have hcz77_1 : w74.cell? ⟨gb427, 1, none⟩ = some (.slice A1_1 l1_1.length c1_1) := (blk_cell BK427.out 1).trans rfl; have hcz77_2 : w74.cell? ⟨gb427, 2, none⟩ = some (.bool a1_2) := (blk_cell BK427.out 2).trans rfl; have hfz77_0 := blk_frozen BK427.out 0; have hfz77_1 := blk_frozen BK427.out 1; have hfz77_2 := blk_frozen BK427.out 2) | ((with_reducible refine gate_dst (N := 15) rfl ?_); refine Kd.N_lit k30 _ 30 ?hg (N' := 15) ?hd (xs := ([(⟨(⟨a0_0, l0_1⟩ : S28), a0_2⟩ : S30), (⟨(⟨a1_0, l1_1⟩ : S28), a1_2⟩ : S30)] : List (S30))) (inner := [.int .i64 a0_0, .slice A0_1 l0_1.length c0_1, .bool a0_2, .int .i64 a1_0, .slice A1_1 l1_1.length c1_1, .bool a1_2]) (ok := (fun k_ => ((P0_1_ k_ ∨ P1_1_ k_) ∨ w.heap.size ≤ k_) ∧ k_ ≠ gb426 ∧ k_ ≠ gb427)) (okp := (fun k_ => ((P0_1_ k_ ∨ P1_1_ k_) ∨ w.heap.size ≤ k_) ∧ k_ ≠ gb426 ∧ k_ ≠ gb427)) ?hr ?hp (fun _ hk => hk) ((show ∀ k_, w74.heap.size ≤ k_ → (fun k_ => ((P0_1_ k_ ∨ P1_1_ k_) ∨ w.heap.size ≤ k_) ∧ k_ ≠ gb426 ∧ k_ ≠ gb427) k_ from fun k_ hk => ⟨(.inr (Nat.le_trans (below_size (zo HB)) hk)), Kd.freshB (g := gb426) (o := .cells #[.int .i64 a0_0, .slice A0_1 l0_1.length c0_1, .bool a0_2] 30 (0, 0)) (zb BK426) k_ hk, Kd.freshB (g := gb427) (o := .cells #[.int .i64 a1_0, .slice A1_1 l1_1.length c1_1, .bool a1_2] 30 (0, 0)) (zb BK427) k_ hk⟩) _ (Nat.le_refl _)) (Below.refl _ _) (Nat.le_refl _) (by simp) ?_; (case hd => rfl); (case hg => rfl); (case hr => first | (go_simp; done) | (go_simp; rfl)); (case hp => exact (Reps.c3 (show Kd.FK k30 _ _ (⟨(⟨a0_0, l0_1⟩ : S28), a0_2⟩ : S30) [.int .i64 a0_0, .slice A0_1 l0_1.length c0_1, .bool a0_2] from (k30_mkF _ _ (⟨(⟨a0_0, l0_1⟩ : S28), a0_2⟩ : S30) (Kd.V_reads' (vM (ok' := (fun k_ => ((P0_1_ k_ ∨ P1_1_ k_) ∨ w.heap.size ≤ k_) ∧ k_ ≠ gb426 ∧ k_ ≠ gb427)) (HO0_1.out) (fun k_ hk => ⟨hk.1.1, ⟨hk.1.2, hk.2⟩⟩))).2.1 (Kd.V_F (vM (ok' := (fun k_ => ((P0_1_ k_ ∨ P1_1_ k_) ∨ w.heap.size ≤ k_) ∧ k_ ≠ gb426 ∧ k_ ≠ gb427)) (HO0_1.out) (fun k_ hk => ⟨hk.1.1, ⟨hk.1.2, hk.2⟩⟩))))) (Reps.c3 (show Kd.FK k30 _ _ (⟨(⟨a1_0, l1_1⟩ : S28), a1_2⟩ : S30) [.int .i64 a1_0, .slice A1_1 l1_1.length c1_1, .bool a1_2] from (k30_mkF _ _ (⟨(⟨a1_0, l1_1⟩ : S28), a1_2⟩ : S30) (Kd.V_reads' (vM (ok' := (fun k_ => ((P0_1_ k_ ∨ P1_1_ k_) ∨ w.heap.size ≤ k_) ∧ k_ ≠ gb426 ∧ k_ ≠ gb427)) (HO1_1.out) (fun k_ hk => ⟨hk.1.1, ⟨hk.1.2, hk.2⟩⟩))).2.1 (Kd.V_F (vM (ok' := (fun k_ => ((P0_1_ k_ ∨ P1_1_ k_) ∨ w.heap.size ≤ k_) ∧ k_ ≠ gb426 ∧ k_ ≠ gb427)) (HO1_1.out) (fun k_ hk => ⟨hk.1.1, ⟨hk.1.2, hk.2⟩⟩))))) (Reps.none _ _)))); intro v429 w78 ho79 hb hg_ hnew_; clear hg_ hnew_; (first | rw [← Ny428.out] at ho79 | (simp only [Int.reduceToNat] at ho79; rw [← Ny428.out] at ho79)); replace HO0_1 := zK (Kd.V_elder' (zv HO0_1) (Kd.N_base ho79) hb); replace HO1_1 := zK (Kd.V_elder' (zv HO1_1) (Kd.N_base ho79) hb); have HO430 := zK (Kd.N_lower ho79 (below_size (zo HB))); replace BK426 := zK (blk_below (g := gb426) (o := .cells #[.int .i64 a0_0, .slice A0_1 l0_1.length c0_1, .bool a0_2] 30 (0, 0)) (zb BK426) hb); replace BK427 := zK (blk_below (g := gb427) (o := .cells #[.int .i64 a1_0, .slice A1_1 l1_1.length c1_1, .bool a1_2] 30 (0, 0)) (zb BK427) hb); replace HB := zK (below_step (zo HB) hb); clear hb ho79; obtain ⟨Ao80, co80, eo80⟩ := Kd.N_slice HO430.out; subst eo80) | ((with_reducible refine zC (f := 9) rfl ?_); refine goesL_ (some 16) rfl rfl Try.func9 (by kernel_rfl) rfl #[.int .i64 2, .slice Ao80 y428.length co80] rfl (by (try simp only [List.map_toArray, List.map_cons, List.map_nil]); first | done | rfl | (simp only [List.length_drop, List.length_take]; rfl)) ?_; (with_reducible refine (sequiturlaw28_Short.calls k 2 _ _ y428 false _ ?side1 ?side2 A3.out).mono ?_); (case side1 => repeat (first | exact (Kd.N_reads' HO430.out).2.2 | (with_reducible refine cA ?_ _) | (with_reducible refine cN ?_ _) | (with_reducible refine cD ?_))); (case side2 => exact (Kd.N_reads' HO430.out).2.1); rintro e w' ⟨rfl, ⟨nd, rfl⟩⟩; refine ⟨_, rfl, ?_⟩) | ((with_reducible refine zC (f := 10) rfl ?_); refine goesL_ (some 18) rfl rfl Try.func10 (by kernel_rfl) rfl #[] rfl (by (try simp only [List.map_toArray, List.map_cons, List.map_nil]); first | done | rfl | (simp only [List.length_drop, List.length_take]; rfl)) ?_; (with_reducible refine (sequiturlaw28_goes.calls k  t432 _ A72.out).mono ?_); rintro e w81 ⟨rfl, hb⟩; refine ⟨_, rfl, ?_⟩; replace HO0_1 := zK (Kd.V_below (zv HO0_1) hb); replace HO1_1 := zK (Kd.V_below (zv HO1_1) hb); replace HO430 := zK (Kd.N_below (zn HO430) hb); replace BK426 := zK (blk_below (g := gb426) (o := .cells #[.int .i64 a0_0, .slice A0_1 l0_1.length c0_1, .bool a0_2] 30 (0, 0)) (zb BK426) hb); replace BK427 := zK (blk_below (g := gb427) (o := .cells #[.int .i64 a1_0, .slice A1_1 l1_1.length c1_1, .bool a1_2] 30 (0, 0)) (zb BK427) hb); replace HB := zK (below_step (zo HB) hb); (try clear hb); (try clear hb2); (try clear hk); (try clear hi)))
  go_ret
  exact ⟨by first | rfl | (simp [errW_none, errW_some] <;> rfl) | (simp [*, errW_none, errW_some] <;> rfl), zo HB⟩

end Go.Proofs.Ytmedciidghmkkaa.PIneqTurns
