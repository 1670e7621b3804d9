/- What the call of each function that the law reaches comes to: it answers as the plain function of the same name does, wherever that one answers; and the law itself out of its plain form. Written by a program of this session (an extended copy of the printer); no condition but what stands in each theorem. -/
import Derived.Test.YtmedciidghmkkaaDoorPLinValuesx0
import Derived.Test.YtmedciidghmkkaaDoorPLinValuesx3
import Derived.Test.YtmedciidghmkkaaDoorPLinValuesx4
import Derived.Test.YtmedciidghmkkaaDoorPLinValuesx5
namespace Go.Proofs.YtmedciidghmkkaaDoor.PLinValues
open Go.RowKit Go.Proofs.YtmedciidghmkkaaDoorW.PrintWords Go.Proofs.YtmedciidghmkkaaDoorW.PrintLast Go.Proofs.YtmedciidghmkkaaDoorW.PrintMore
open Go.Proofs.YtmedciidghmkkaaDoorW.PrintWords renaming blk_drewN → zN, blk_drew → zD, blk_alloc → zA, below_alloc → yA, pw_below_drewN → yN, below_drew1 → yD, below_set → yS, gate_callee → zC, gate_guard → zG
open Go.Proofs.YtmedciidghmkkaaDoorW.PrintWords.Kd renaming C_alloc → cA, C_drewN → cN, C_drew → cD
open Go.Proofs.YtmedciidghmkkaaDoorW.PrintWords.Aside0 renaming mk → zK
attribute [local go_sem] max2_int min2_int max_two min_two max_three min_three max_four min_four   -- for this text's walks alone
set_option linter.unusedVariables false
set_option linter.unusedSimpArgs false

/-! ### sequiturlaw27_alive: function 8 -/
def sequiturlaw27_alive.f (k : Nat)  : Option (Bool) := (sequiturlaw27_form.f 5 (([(⟨0, 3⟩ : S51), (⟨1, (-2)⟩ : S51)] : List (S51)))).bind fun bt174 => ((sequiturlaw27_form.f (-5) (([(⟨1, 2⟩ : S51)] : List (S51)))).bind fun bt181 => ((lin_Add.f k bt174.1 bt174.2 bt181.1 bt181.2).bind fun bt185 => ((sequiturlaw27_form.f 0 (([(⟨0, 3⟩ : S51), (⟨1, (-2)⟩ : S51)] : List (S51)))).bind fun bt194 => ((sequiturlaw27_form.f 1 (([(⟨0, 1⟩ : S51)] : List (S51)))).bind fun bt201 => ((lin_Put.f k bt194.1 bt194.2 1 bt201.1 bt201.2).bind fun bt205 => (if bt185.2.2 = 0 then ((sequiturlaw27_form.f 0 (([(⟨0, 3⟩ : S51)] : List (S51)))).bind fun bt214 => ((sequiturbase_Lin.f k bt185.1 bt185.2.1 bt214.1 bt214.2).bind fun t218 => (if t218 = true then (if bt205.2.2 = 0 then ((sequiturlaw27_form.f (-2) (([(⟨0, 1⟩ : S51)] : List (S51)))).bind fun bt222 => ((sequiturbase_Lin.f k bt205.1 bt205.2.1 bt222.1 bt222.2).bind fun t226 => (if t226 = true then ((sequiturlaw27_form.f 4 (([(⟨3, (-1)⟩ : S51)] : List (S51)))).bind fun bt230 => ((lin_Text.f bt230.1 bt230.2).bind fun t234 => (some (t234.toList == ([45, 49, 120, 51, 32, 43, 32, 52] : List UInt8))))) else (none)))) else (none)) else (none)))) else (none)))))))
theorem sequiturlaw27_alive.mono : ∀ k, LeO (sequiturlaw27_alive.f k ) (sequiturlaw27_alive.f (k + 1) ) := by
 intro  k
 unfold sequiturlaw27_alive.f
 repeat' first
   | (with_reducible exact lin_Add.mono _ _ _ _ _)
   | (with_reducible exact lin_Put.mono _ _ _ _ _ _)
   | (with_reducible exact sequiturbase_Lin.mono _ _ _ _ _)
   | (with_reducible exact LeO.refl _)
   | (with_reducible exact LeO.none _)
   | (with_reducible refine LeO.ite ?_ ?_)
   | (with_reducible refine LeO.bind ?_ (fun _ => ?_))
   | exact lin_Add.mono _ _ _ _ _
   | exact lin_Put.mono _ _ _ _ _ _
   | exact sequiturbase_Lin.mono _ _ _ _ _
   | exact LeO.none _
   | refine LeO.ite ?_ ?_
   | refine LeO.bind ?_ (fun _ => ?_)
def sequiturlaw27_alive.T3 : Bool × List (List Nat × List Nat) := (true, [([], []), ([0], [0]), ([1], [1]), ([2], [2]), ([2], [2]), ([4, 2], [2, 4]), ([5, 2, 2], [2, 5]), ([3, 6, 6, 2], [2, 3, 6]), ([2, 7], [2, 7]), ([8, 7], [8]), ([9], [9]), ([10, 9], [9, 10]), ([9, 11], [9, 11]), ([12, 9], [12]), ([13], [13]), ([13], [13]), ([15, 13], [13, 15]), ([16, 13, 13], [13, 16]), ([14, 17, 17, 13], [13, 14, 17]), ([13, 18], [13, 18]), ([19, 18], [19]), ([20], [20]), ([21, 20], [20, 21]), ([22, 20, 20], [20, 22]), ([23, 23, 20], [20, 23]), ([24, 20], [20, 24]), ([20, 25], [20, 25]), ([26, 24, 0, 1, 2, 3, 4, 5, 6, 7, 8, 9, 10, 11, 12, 13, 14, 15, 16, 17, 18, 19, 20, 21, 22, 23, 24, 25, 26], [26])])
def sequiturlaw27_alive.B3 : List Nat := [0, 1, 3, 7, 7, 23, 55, 127, 255, 511, 1023, 2047, 4095, 8191, 16383, 16383, 49151, 114687, 262143, 524287, 1048575, 2097151, 4194303, 8388607, 16777215, 33554431, 67108863, 134217727]
theorem sequiturlaw27_alive.tab3 : rtab .any (opsOf Tryd.f8 3) = sequiturlaw27_alive.T3 := by kernel_rfl
theorem sequiturlaw27_alive.bits3 : waitsOk sequiturlaw27_alive.T3.2 sequiturlaw27_alive.B3 = true := by kernel_rfl
set_option maxHeartbeats 8000000 in
set_option maxRecDepth 100000 in
theorem sequiturlaw27_alive.calls (k : Nat)  (r : Bool) (w : World) [ti_ : Txt.TabI w] (h : sequiturlaw27_alive.f k  = some r) :
  Calls Tryd.prog 8 #[] w fun e w' => e = .returned (.bool r) ∧ Below w.heap.size w w' := by
 have hu51 := Tryd.underlying51
 have hu28 := Tryd.underlying28
 have HB := zK (Below.refl w.heap.size w)
 have H : ((sequiturlaw27_form.f 5 (([(⟨0, 3⟩ : S51), (⟨1, (-2)⟩ : S51)] : List (S51)))).bind fun bt174 => ((sequiturlaw27_form.f (-5) (([(⟨1, 2⟩ : S51)] : List (S51)))).bind fun bt181 => ((lin_Add.f k bt174.1 bt174.2 bt181.1 bt181.2).bind fun bt185 => ((sequiturlaw27_form.f 0 (([(⟨0, 3⟩ : S51), (⟨1, (-2)⟩ : S51)] : List (S51)))).bind fun bt194 => ((sequiturlaw27_form.f 1 (([(⟨0, 1⟩ : S51)] : List (S51)))).bind fun bt201 => ((lin_Put.f k bt194.1 bt194.2 1 bt201.1 bt201.2).bind fun bt205 => (if bt185.2.2 = 0 then ((sequiturlaw27_form.f 0 (([(⟨0, 3⟩ : S51)] : List (S51)))).bind fun bt214 => ((sequiturbase_Lin.f k bt185.1 bt185.2.1 bt214.1 bt214.2).bind fun t218 => (if t218 = true then (if bt205.2.2 = 0 then ((sequiturlaw27_form.f (-2) (([(⟨0, 1⟩ : S51)] : List (S51)))).bind fun bt222 => ((sequiturbase_Lin.f k bt205.1 bt205.2.1 bt222.1 bt222.2).bind fun t226 => (if t226 = true then ((sequiturlaw27_form.f 4 (([(⟨3, (-1)⟩ : S51)] : List (S51)))).bind fun bt230 => ((lin_Text.f bt230.1 bt230.2).bind fun t234 => (some (t234.toList == ([45, 49, 120, 51, 32, 43, 32, 52] : List UInt8))))) else (none)))) else (none)) else (none)))) else (none)))))))) = some r := h
 clear h
 obtain ⟨y171, hy171⟩ : ∃ y_ : List (S51), y_ = (([(⟨0, 3⟩ : S51), (⟨1, (-2)⟩ : S51)] : List (S51))) := ⟨_, rfl⟩
 replace H : ((sequiturlaw27_form.f 5 y171).bind fun bt174 => ((sequiturlaw27_form.f (-5) (([(⟨1, 2⟩ : S51)] : List (S51)))).bind fun bt181 => ((lin_Add.f k bt174.1 bt174.2 bt181.1 bt181.2).bind fun bt185 => ((sequiturlaw27_form.f 0 (([(⟨0, 3⟩ : S51), (⟨1, (-2)⟩ : S51)] : List (S51)))).bind fun bt194 => ((sequiturlaw27_form.f 1 (([(⟨0, 1⟩ : S51)] : List (S51)))).bind fun bt201 => ((lin_Put.f k bt194.1 bt194.2 1 bt201.1 bt201.2).bind fun bt205 => (if bt185.2.2 = 0 then ((sequiturlaw27_form.f 0 (([(⟨0, 3⟩ : S51)] : List (S51)))).bind fun bt214 => ((sequiturbase_Lin.f k bt185.1 bt185.2.1 bt214.1 bt214.2).bind fun t218 => (if t218 = true then (if bt205.2.2 = 0 then ((sequiturlaw27_form.f (-2) (([(⟨0, 1⟩ : S51)] : List (S51)))).bind fun bt222 => ((sequiturbase_Lin.f k bt205.1 bt205.2.1 bt222.1 bt222.2).bind fun t226 => (if t226 = true then ((sequiturlaw27_form.f 4 (([(⟨3, (-1)⟩ : S51)] : List (S51)))).bind fun bt230 => ((lin_Text.f bt230.1 bt230.2).bind fun t234 => (some (t234.toList == ([45, 49, 120, 51, 32, 43, 32, 52] : List UInt8))))) else (none)))) else (none)) else (none)))) else (none)))))))) = some r := by first | (rw [hy171]; with_reducible exact H) | (have H2_ := (Option.bind_some _ _).symm.trans H; rw [hy171]; with_reducible exact H2_) | (have H2_ := (Option.bind_some _ _).symm.trans H; with_reducible exact H2_) | with_reducible exact H | (rw [hy171]; exact H) | exact H
 have Ny171 := zK hy171
 clear hy171
 replace H := Option.bind_eq_some_iff.mp H
 obtain ⟨⟨t174, t175⟩, A10, H⟩ := H
 replace H : ((sequiturlaw27_form.f (-5) (([(⟨1, 2⟩ : S51)] : List (S51)))).bind fun bt181 => ((lin_Add.f k t174 t175 bt181.1 bt181.2).bind fun bt185 => ((sequiturlaw27_form.f 0 (([(⟨0, 3⟩ : S51), (⟨1, (-2)⟩ : S51)] : List (S51)))).bind fun bt194 => ((sequiturlaw27_form.f 1 (([(⟨0, 1⟩ : S51)] : List (S51)))).bind fun bt201 => ((lin_Put.f k bt194.1 bt194.2 1 bt201.1 bt201.2).bind fun bt205 => (if bt185.2.2 = 0 then ((sequiturlaw27_form.f 0 (([(⟨0, 3⟩ : S51)] : List (S51)))).bind fun bt214 => ((sequiturbase_Lin.f k bt185.1 bt185.2.1 bt214.1 bt214.2).bind fun t218 => (if t218 = true then (if bt205.2.2 = 0 then ((sequiturlaw27_form.f (-2) (([(⟨0, 1⟩ : S51)] : List (S51)))).bind fun bt222 => ((sequiturbase_Lin.f k bt205.1 bt205.2.1 bt222.1 bt222.2).bind fun t226 => (if t226 = true then ((sequiturlaw27_form.f 4 (([(⟨3, (-1)⟩ : S51)] : List (S51)))).bind fun bt230 => ((lin_Text.f bt230.1 bt230.2).bind fun t234 => (some (t234.toList == ([45, 49, 120, 51, 32, 43, 32, 52] : List UInt8))))) else (none)))) else (none)) else (none)))) else (none))))))) = some r := H
 have A1 := zK A10
 clear A10
 obtain ⟨y178, hy178⟩ : ∃ y_ : List (S51), y_ = (([(⟨1, 2⟩ : S51)] : List (S51))) := ⟨_, rfl⟩
 replace H : ((sequiturlaw27_form.f (-5) y178).bind fun bt181 => ((lin_Add.f k t174 t175 bt181.1 bt181.2).bind fun bt185 => ((sequiturlaw27_form.f 0 (([(⟨0, 3⟩ : S51), (⟨1, (-2)⟩ : S51)] : List (S51)))).bind fun bt194 => ((sequiturlaw27_form.f 1 (([(⟨0, 1⟩ : S51)] : List (S51)))).bind fun bt201 => ((lin_Put.f k bt194.1 bt194.2 1 bt201.1 bt201.2).bind fun bt205 => (if bt185.2.2 = 0 then ((sequiturlaw27_form.f 0 (([(⟨0, 3⟩ : S51)] : List (S51)))).bind fun bt214 => ((sequiturbase_Lin.f k bt185.1 bt185.2.1 bt214.1 bt214.2).bind fun t218 => (if t218 = true then (if bt205.2.2 = 0 then ((sequiturlaw27_form.f (-2) (([(⟨0, 1⟩ : S51)] : List (S51)))).bind fun bt222 => ((sequiturbase_Lin.f k bt205.1 bt205.2.1 bt222.1 bt222.2).bind fun t226 => (if t226 = true then ((sequiturlaw27_form.f 4 (([(⟨3, (-1)⟩ : S51)] : List (S51)))).bind fun bt230 => ((lin_Text.f bt230.1 bt230.2).bind fun t234 => (some (t234.toList == ([45, 49, 120, 51, 32, 43, 32, 52] : List UInt8))))) else (none)))) else (none)) else (none)))) else (none))))))) = some r := by first | (rw [hy178]; with_reducible exact H) | (have H2_ := (Option.bind_some _ _).symm.trans H; rw [hy178]; with_reducible exact H2_) | (have H2_ := (Option.bind_some _ _).symm.trans H; with_reducible exact H2_) | with_reducible exact H | (rw [hy178]; exact H) | exact H
 have Ny178 := zK hy178
 clear hy178
 replace H := Option.bind_eq_some_iff.mp H
 obtain ⟨⟨t181, t182⟩, A20, H⟩ := H
 replace H : ((lin_Add.f k t174 t175 t181 t182).bind fun bt185 => ((sequiturlaw27_form.f 0 (([(⟨0, 3⟩ : S51), (⟨1, (-2)⟩ : S51)] : List (S51)))).bind fun bt194 => ((sequiturlaw27_form.f 1 (([(⟨0, 1⟩ : S51)] : List (S51)))).bind fun bt201 => ((lin_Put.f k bt194.1 bt194.2 1 bt201.1 bt201.2).bind fun bt205 => (if bt185.2.2 = 0 then ((sequiturlaw27_form.f 0 (([(⟨0, 3⟩ : S51)] : List (S51)))).bind fun bt214 => ((sequiturbase_Lin.f k bt185.1 bt185.2.1 bt214.1 bt214.2).bind fun t218 => (if t218 = true then (if bt205.2.2 = 0 then ((sequiturlaw27_form.f (-2) (([(⟨0, 1⟩ : S51)] : List (S51)))).bind fun bt222 => ((sequiturbase_Lin.f k bt205.1 bt205.2.1 bt222.1 bt222.2).bind fun t226 => (if t226 = true then ((sequiturlaw27_form.f 4 (([(⟨3, (-1)⟩ : S51)] : List (S51)))).bind fun bt230 => ((lin_Text.f bt230.1 bt230.2).bind fun t234 => (some (t234.toList == ([45, 49, 120, 51, 32, 43, 32, 52] : List UInt8))))) else (none)))) else (none)) else (none)))) else (none)))))) = some r := H
 have A2 := zK A20
 clear A20
 replace H := Option.bind_eq_some_iff.mp H
 obtain ⟨⟨t185, t186, t189⟩, A30, H⟩ := H
 replace H : ((sequiturlaw27_form.f 0 (([(⟨0, 3⟩ : S51), (⟨1, (-2)⟩ : S51)] : List (S51)))).bind fun bt194 => ((sequiturlaw27_form.f 1 (([(⟨0, 1⟩ : S51)] : List (S51)))).bind fun bt201 => ((lin_Put.f k bt194.1 bt194.2 1 bt201.1 bt201.2).bind fun bt205 => (if t189 = 0 then ((sequiturlaw27_form.f 0 (([(⟨0, 3⟩ : S51)] : List (S51)))).bind fun bt214 => ((sequiturbase_Lin.f k t185 t186 bt214.1 bt214.2).bind fun t218 => (if t218 = true then (if bt205.2.2 = 0 then ((sequiturlaw27_form.f (-2) (([(⟨0, 1⟩ : S51)] : List (S51)))).bind fun bt222 => ((sequiturbase_Lin.f k bt205.1 bt205.2.1 bt222.1 bt222.2).bind fun t226 => (if t226 = true then ((sequiturlaw27_form.f 4 (([(⟨3, (-1)⟩ : S51)] : List (S51)))).bind fun bt230 => ((lin_Text.f bt230.1 bt230.2).bind fun t234 => (some (t234.toList == ([45, 49, 120, 51, 32, 43, 32, 52] : List UInt8))))) else (none)))) else (none)) else (none)))) else (none))))) = some r := H
 have A3 := zK A30
 clear A30
 obtain ⟨y191, hy191⟩ : ∃ y_ : List (S51), y_ = (([(⟨0, 3⟩ : S51), (⟨1, (-2)⟩ : S51)] : List (S51))) := ⟨_, rfl⟩
 replace H : ((sequiturlaw27_form.f 0 y191).bind fun bt194 => ((sequiturlaw27_form.f 1 (([(⟨0, 1⟩ : S51)] : List (S51)))).bind fun bt201 => ((lin_Put.f k bt194.1 bt194.2 1 bt201.1 bt201.2).bind fun bt205 => (if t189 = 0 then ((sequiturlaw27_form.f 0 (([(⟨0, 3⟩ : S51)] : List (S51)))).bind fun bt214 => ((sequiturbase_Lin.f k t185 t186 bt214.1 bt214.2).bind fun t218 => (if t218 = true then (if bt205.2.2 = 0 then ((sequiturlaw27_form.f (-2) (([(⟨0, 1⟩ : S51)] : List (S51)))).bind fun bt222 => ((sequiturbase_Lin.f k bt205.1 bt205.2.1 bt222.1 bt222.2).bind fun t226 => (if t226 = true then ((sequiturlaw27_form.f 4 (([(⟨3, (-1)⟩ : S51)] : List (S51)))).bind fun bt230 => ((lin_Text.f bt230.1 bt230.2).bind fun t234 => (some (t234.toList == ([45, 49, 120, 51, 32, 43, 32, 52] : List UInt8))))) else (none)))) else (none)) else (none)))) else (none))))) = some r := by first | (rw [hy191]; with_reducible exact H) | (have H2_ := (Option.bind_some _ _).symm.trans H; rw [hy191]; with_reducible exact H2_) | (have H2_ := (Option.bind_some _ _).symm.trans H; with_reducible exact H2_) | with_reducible exact H | (rw [hy191]; exact H) | exact H
 have Ny191 := zK hy191
 clear hy191
 replace H := Option.bind_eq_some_iff.mp H
 obtain ⟨⟨t194, t195⟩, A40, H⟩ := H
 replace H : ((sequiturlaw27_form.f 1 (([(⟨0, 1⟩ : S51)] : List (S51)))).bind fun bt201 => ((lin_Put.f k t194 t195 1 bt201.1 bt201.2).bind fun bt205 => (if t189 = 0 then ((sequiturlaw27_form.f 0 (([(⟨0, 3⟩ : S51)] : List (S51)))).bind fun bt214 => ((sequiturbase_Lin.f k t185 t186 bt214.1 bt214.2).bind fun t218 => (if t218 = true then (if bt205.2.2 = 0 then ((sequiturlaw27_form.f (-2) (([(⟨0, 1⟩ : S51)] : List (S51)))).bind fun bt222 => ((sequiturbase_Lin.f k bt205.1 bt205.2.1 bt222.1 bt222.2).bind fun t226 => (if t226 = true then ((sequiturlaw27_form.f 4 (([(⟨3, (-1)⟩ : S51)] : List (S51)))).bind fun bt230 => ((lin_Text.f bt230.1 bt230.2).bind fun t234 => (some (t234.toList == ([45, 49, 120, 51, 32, 43, 32, 52] : List UInt8))))) else (none)))) else (none)) else (none)))) else (none)))) = some r := H
 have A4 := zK A40
 clear A40
 obtain ⟨y198, hy198⟩ : ∃ y_ : List (S51), y_ = (([(⟨0, 1⟩ : S51)] : List (S51))) := ⟨_, rfl⟩
 replace H : ((sequiturlaw27_form.f 1 y198).bind fun bt201 => ((lin_Put.f k t194 t195 1 bt201.1 bt201.2).bind fun bt205 => (if t189 = 0 then ((sequiturlaw27_form.f 0 (([(⟨0, 3⟩ : S51)] : List (S51)))).bind fun bt214 => ((sequiturbase_Lin.f k t185 t186 bt214.1 bt214.2).bind fun t218 => (if t218 = true then (if bt205.2.2 = 0 then ((sequiturlaw27_form.f (-2) (([(⟨0, 1⟩ : S51)] : List (S51)))).bind fun bt222 => ((sequiturbase_Lin.f k bt205.1 bt205.2.1 bt222.1 bt222.2).bind fun t226 => (if t226 = true then ((sequiturlaw27_form.f 4 (([(⟨3, (-1)⟩ : S51)] : List (S51)))).bind fun bt230 => ((lin_Text.f bt230.1 bt230.2).bind fun t234 => (some (t234.toList == ([45, 49, 120, 51, 32, 43, 32, 52] : List UInt8))))) else (none)))) else (none)) else (none)))) else (none)))) = some r := by first | (rw [hy198]; with_reducible exact H) | (have H2_ := (Option.bind_some _ _).symm.trans H; rw [hy198]; with_reducible exact H2_) | (have H2_ := (Option.bind_some _ _).symm.trans H; with_reducible exact H2_) | with_reducible exact H | (rw [hy198]; exact H) | exact H
 have Ny198 := zK hy198
 clear hy198
 replace H := Option.bind_eq_some_iff.mp H
 obtain ⟨⟨t201, t202⟩, A50, H⟩ := H
 replace H : ((lin_Put.f k t194 t195 1 t201 t202).bind fun bt205 => (if t189 = 0 then ((sequiturlaw27_form.f 0 (([(⟨0, 3⟩ : S51)] : List (S51)))).bind fun bt214 => ((sequiturbase_Lin.f k t185 t186 bt214.1 bt214.2).bind fun t218 => (if t218 = true then (if bt205.2.2 = 0 then ((sequiturlaw27_form.f (-2) (([(⟨0, 1⟩ : S51)] : List (S51)))).bind fun bt222 => ((sequiturbase_Lin.f k bt205.1 bt205.2.1 bt222.1 bt222.2).bind fun t226 => (if t226 = true then ((sequiturlaw27_form.f 4 (([(⟨3, (-1)⟩ : S51)] : List (S51)))).bind fun bt230 => ((lin_Text.f bt230.1 bt230.2).bind fun t234 => (some (t234.toList == ([45, 49, 120, 51, 32, 43, 32, 52] : List UInt8))))) else (none)))) else (none)) else (none)))) else (none))) = some r := H
 have A5 := zK A50
 clear A50
 replace H := Option.bind_eq_some_iff.mp H
 obtain ⟨⟨t205, t206, t209⟩, A60, H⟩ := H
 replace H : (if t189 = 0 then ((sequiturlaw27_form.f 0 (([(⟨0, 3⟩ : S51)] : List (S51)))).bind fun bt214 => ((sequiturbase_Lin.f k t185 t186 bt214.1 bt214.2).bind fun t218 => (if t218 = true then (if t209 = 0 then ((sequiturlaw27_form.f (-2) (([(⟨0, 1⟩ : S51)] : List (S51)))).bind fun bt222 => ((sequiturbase_Lin.f k t205 t206 bt222.1 bt222.2).bind fun t226 => (if t226 = true then ((sequiturlaw27_form.f 4 (([(⟨3, (-1)⟩ : S51)] : List (S51)))).bind fun bt230 => ((lin_Text.f bt230.1 bt230.2).bind fun t234 => (some (t234.toList == ([45, 49, 120, 51, 32, 43, 32, 52] : List UInt8))))) else (none)))) else (none)) else (none)))) else (none)) = some r := H
 have A6 := zK A60
 clear A60
 by_cases c7 : t189 = 0
 ·rw [if_pos c7] at H
  have c7b0 : (t189 == 0) = true := beq_iff_eq.mpr c7
  have c7b1 : (t189 != 0) = false := bne_eq_false_iff_eq.mpr c7
  clear c7
  obtain ⟨y211, hy211⟩ : ∃ y_ : List (S51), y_ = (([(⟨0, 3⟩ : S51)] : List (S51))) := ⟨_, rfl⟩
  replace H : ((sequiturlaw27_form.f 0 y211).bind fun bt214 => ((sequiturbase_Lin.f k t185 t186 bt214.1 bt214.2).bind fun t218 => (if t218 = true then (if t209 = 0 then ((sequiturlaw27_form.f (-2) (([(⟨0, 1⟩ : S51)] : List (S51)))).bind fun bt222 => ((sequiturbase_Lin.f k t205 t206 bt222.1 bt222.2).bind fun t226 => (if t226 = true then ((sequiturlaw27_form.f 4 (([(⟨3, (-1)⟩ : S51)] : List (S51)))).bind fun bt230 => ((lin_Text.f bt230.1 bt230.2).bind fun t234 => (some (t234.toList == ([45, 49, 120, 51, 32, 43, 32, 52] : List UInt8))))) else (none)))) else (none)) else (none)))) = some r := by first | (rw [hy211]; with_reducible exact H) | (have H2_ := (Option.bind_some _ _).symm.trans H; rw [hy211]; with_reducible exact H2_) | (have H2_ := (Option.bind_some _ _).symm.trans H; with_reducible exact H2_) | with_reducible exact H | (rw [hy211]; exact H) | exact H
  have Ny211 := zK hy211
  clear hy211
  replace H := Option.bind_eq_some_iff.mp H
  obtain ⟨⟨t214, t215⟩, A80, H⟩ := H
  replace H : ((sequiturbase_Lin.f k t185 t186 t214 t215).bind fun t218 => (if t218 = true then (if t209 = 0 then ((sequiturlaw27_form.f (-2) (([(⟨0, 1⟩ : S51)] : List (S51)))).bind fun bt222 => ((sequiturbase_Lin.f k t205 t206 bt222.1 bt222.2).bind fun t226 => (if t226 = true then ((sequiturlaw27_form.f 4 (([(⟨3, (-1)⟩ : S51)] : List (S51)))).bind fun bt230 => ((lin_Text.f bt230.1 bt230.2).bind fun t234 => (some (t234.toList == ([45, 49, 120, 51, 32, 43, 32, 52] : List UInt8))))) else (none)))) else (none)) else (none))) = some r := H
  have A8 := zK A80
  clear A80
  replace H := Option.bind_eq_some_iff.mp H
  obtain ⟨t218, A90, H⟩ := H
  replace H : (if t218 = true then (if t209 = 0 then ((sequiturlaw27_form.f (-2) (([(⟨0, 1⟩ : S51)] : List (S51)))).bind fun bt222 => ((sequiturbase_Lin.f k t205 t206 bt222.1 bt222.2).bind fun t226 => (if t226 = true then ((sequiturlaw27_form.f 4 (([(⟨3, (-1)⟩ : S51)] : List (S51)))).bind fun bt230 => ((lin_Text.f bt230.1 bt230.2).bind fun t234 => (some (t234.toList == ([45, 49, 120, 51, 32, 43, 32, 52] : List UInt8))))) else (none)))) else (none)) else (none)) = some r := H
  have A9 := zK A90
  clear A90
  by_cases c10 : t218 = true
  ·subst c10
   have H1 : (if t209 = 0 then ((sequiturlaw27_form.f (-2) (([(⟨0, 1⟩ : S51)] : List (S51)))).bind fun bt222 => ((sequiturbase_Lin.f k t205 t206 bt222.1 bt222.2).bind fun t226 => (if t226 = true then ((sequiturlaw27_form.f 4 (([(⟨3, (-1)⟩ : S51)] : List (S51)))).bind fun bt230 => ((lin_Text.f bt230.1 bt230.2).bind fun t234 => (some (t234.toList == ([45, 49, 120, 51, 32, 43, 32, 52] : List UInt8))))) else (none)))) else (none)) = some r := by rw [if_pos rfl] at H; exact H
   clear H
   have H := H1
   clear H1
   by_cases c11 : t209 = 0
   ·rw [if_pos c11] at H
    have c11b0 : (t209 == 0) = true := beq_iff_eq.mpr c11
    have c11b1 : (t209 != 0) = false := bne_eq_false_iff_eq.mpr c11
    clear c11
    obtain ⟨y219, hy219⟩ : ∃ y_ : List (S51), y_ = (([(⟨0, 1⟩ : S51)] : List (S51))) := ⟨_, rfl⟩
    replace H : ((sequiturlaw27_form.f (-2) y219).bind fun bt222 => ((sequiturbase_Lin.f k t205 t206 bt222.1 bt222.2).bind fun t226 => (if t226 = true then ((sequiturlaw27_form.f 4 (([(⟨3, (-1)⟩ : S51)] : List (S51)))).bind fun bt230 => ((lin_Text.f bt230.1 bt230.2).bind fun t234 => (some (t234.toList == ([45, 49, 120, 51, 32, 43, 32, 52] : List UInt8))))) else (none)))) = some r := by first | (rw [hy219]; with_reducible exact H) | (have H2_ := (Option.bind_some _ _).symm.trans H; rw [hy219]; with_reducible exact H2_) | (have H2_ := (Option.bind_some _ _).symm.trans H; with_reducible exact H2_) | with_reducible exact H | (rw [hy219]; exact H) | exact H
    have Ny219 := zK hy219
    clear hy219
    replace H := Option.bind_eq_some_iff.mp H
    obtain ⟨⟨t222, t223⟩, A120, H⟩ := H
    replace H : ((sequiturbase_Lin.f k t205 t206 t222 t223).bind fun t226 => (if t226 = true then ((sequiturlaw27_form.f 4 (([(⟨3, (-1)⟩ : S51)] : List (S51)))).bind fun bt230 => ((lin_Text.f bt230.1 bt230.2).bind fun t234 => (some (t234.toList == ([45, 49, 120, 51, 32, 43, 32, 52] : List UInt8))))) else (none))) = some r := H
    have A12 := zK A120
    clear A120
    replace H := Option.bind_eq_some_iff.mp H
    obtain ⟨t226, A130, H⟩ := H
    replace H : (if t226 = true then ((sequiturlaw27_form.f 4 (([(⟨3, (-1)⟩ : S51)] : List (S51)))).bind fun bt230 => ((lin_Text.f bt230.1 bt230.2).bind fun t234 => (some (t234.toList == ([45, 49, 120, 51, 32, 43, 32, 52] : List UInt8))))) else (none)) = some r := H
    have A13 := zK A130
    clear A130
    by_cases c14 : t226 = true
    ·subst c14
     have H1 : ((sequiturlaw27_form.f 4 (([(⟨3, (-1)⟩ : S51)] : List (S51)))).bind fun bt230 => ((lin_Text.f bt230.1 bt230.2).bind fun t234 => (some (t234.toList == ([45, 49, 120, 51, 32, 43, 32, 52] : List UInt8))))) = some r := by rw [if_pos rfl] at H; exact H
     clear H
     have H := H1
     clear H1
     obtain ⟨y227, hy227⟩ : ∃ y_ : List (S51), y_ = (([(⟨3, (-1)⟩ : S51)] : List (S51))) := ⟨_, rfl⟩
     replace H : ((sequiturlaw27_form.f 4 y227).bind fun bt230 => ((lin_Text.f bt230.1 bt230.2).bind fun t234 => (some (t234.toList == ([45, 49, 120, 51, 32, 43, 32, 52] : List UInt8))))) = some r := by first | (rw [hy227]; with_reducible exact H) | (have H2_ := (Option.bind_some _ _).symm.trans H; rw [hy227]; with_reducible exact H2_) | (have H2_ := (Option.bind_some _ _).symm.trans H; with_reducible exact H2_) | with_reducible exact H | (rw [hy227]; exact H) | exact H
     have Ny227 := zK hy227
     clear hy227
     replace H := Option.bind_eq_some_iff.mp H
     obtain ⟨⟨t230, t231⟩, A150, H⟩ := H
     replace H : ((lin_Text.f t230 t231).bind fun t234 => (some (t234.toList == ([45, 49, 120, 51, 32, 43, 32, 52] : List UInt8)))) = some r := H
     have A15 := zK A150
     clear A150
     replace H := Option.bind_eq_some_iff.mp H
     obtain ⟨t234, A160, H⟩ := H
     replace H : (some (t234.toList == ([45, 49, 120, 51, 32, 43, 32, 52] : List UInt8))) = some r := H
     have A16 := zK A160
     clear A160
     obtain rfl := Option.some.inj H
     go_enter Tryd.func8, Tryd.ntmps8
     try go_wp2_with (first | ((with_reducible refine gate_dst (N := 8) rfl ?_); (try (refine zG (by rfl) ?_; dsimp only)); refine Kd.R_lit k51 _ 51 ?hg (N := 8) ?hd (xs := ([(⟨0, 3⟩ : S51), (⟨1, (-2)⟩ : S51)] : List (S51))) (inner := [.int .i64 0, .int .i64 3, .int .i64 1, .int .i64 (-2)]) (ok := fun _ => True) (okp := fun _ => True) ?hr ?hp (fun _ hk => hk) trivial (Below.refl _ _) (Nat.le_refl _) (by simp) ?_; (case hd => rfl); (case hg => rfl); (case hr => first | (go_simp; done) | (go_simp; rfl)); (case hp => exact (Reps.c2 (show Kd.M k51 _ _ _ (⟨0, 3⟩ : S51) [.int .i64 0, .int .i64 3] from (k51_mkM _ _ _ (⟨0, 3⟩ : S51) )) (Reps.c2 (show Kd.M k51 _ _ _ (⟨1, (-2)⟩ : S51) [.int .i64 1, .int .i64 (-2)] from (k51_mkM _ _ _ (⟨1, (-2)⟩ : S51) )) (Reps.none _ _)))); intro v172 w17 ho18 hb hg_ hnew_; clear hg_ hnew_; (first | rw [← Ny171.out] at ho18 | (simp only [Int.reduceToNat] at ho18; rw [← Ny171.out] at ho18)); have HO173 := zK (Kd.R_lower ho18 (below_size (zo HB))); replace HB := zK (below_step (zo HB) hb); clear hb ho18; obtain ⟨Ao19, co19, eo19⟩ := Kd.R_slice HO173.out; subst eo19) | ((with_reducible refine zC (f := 29) rfl ?_); refine goesL_ (some 9) rfl rfl Tryd.func29 (by kernel_rfl) rfl #[.int .i64 5, .slice Ao19 y171.length co19] rfl (by (try simp only [List.map_toArray, List.map_cons, List.map_nil]); first | done | rfl | (simp only [List.length_drop, List.length_take]; rfl)) ?_; (with_reducible refine (sequiturlaw27_form.calls 5 (fun k_ => some k_ = (.slice Ao19 y171.length co19 : Value).ownBlock) (.slice Ao19 y171.length co19) y171 t174 t175 w _ ?side1 ?side2 A1.out).mono ?_); (case side1 => repeat (first | (with_reducible first | exact HB.out | apply yA | apply yN | apply yD) | exact HB.out)); (case side2 => exact Kd.R_tight rfl HO173.out); rintro e w20 ⟨v176, rfl, ho0, hb, hkp⟩; refine ⟨_, rfl, ?_⟩; have HO177 := zK (Kd.R_mono (ok' := fun k_ => True) ho0 (fun k_ hk_ => trivial)); replace HB := zK (hb); clear HO173; (try clear hb); (try clear hkp); (try clear ho0)) | ((with_reducible refine gate_dst (N := 11) rfl ?_); (try (refine zG (by rfl) ?_; dsimp only)); refine Kd.R_lit k51 _ 51 ?hg (N := 11) ?hd (xs := ([(⟨1, 2⟩ : S51)] : List (S51))) (inner := [.int .i64 1, .int .i64 2]) (ok := fun _ => True) (okp := fun _ => True) ?hr ?hp (fun _ hk => hk) trivial (Below.refl _ _) (Nat.le_refl _) (by simp) ?_; (case hd => rfl); (case hg => rfl); (case hr => first | (go_simp; done) | (go_simp; rfl)); (case hp => exact (Reps.c2 (show Kd.M k51 _ _ _ (⟨1, 2⟩ : S51) [.int .i64 1, .int .i64 2] from (k51_mkM _ _ _ (⟨1, 2⟩ : S51) )) (Reps.none _ _))); intro v179 w21 ho22 hb hg_ hnew_; clear hg_ hnew_; (first | rw [← Ny178.out] at ho22 | (simp only [Int.reduceToNat] at ho22; rw [← Ny178.out] at ho22)); have HO180 := zK (Kd.R_lower (Kd.R_new' ho22 (Kd.R_lt (zr HO177))) (below_size (zo HB))); replace HO177 := zK (Kd.R_elder' (zr HO177) (Kd.R_base ho22) hb); replace HB := zK (below_step (zo HB) hb); clear hb ho22; obtain ⟨Ao23, co23, eo23⟩ := Kd.R_slice HO180.out; subst eo23) | ((with_reducible refine zC (f := 29) rfl ?_); refine goesL_ (some 12) rfl rfl Tryd.func29 (by kernel_rfl) rfl #[.int .i64 (-5), .slice Ao23 y178.length co23] rfl (by (try simp only [List.map_toArray, List.map_cons, List.map_nil]); first | done | rfl | (simp only [List.length_drop, List.length_take]; rfl)) ?_; (with_reducible refine (sequiturlaw27_form.calls (-5) (fun k_ => some k_ = (.slice Ao23 y178.length co23 : Value).ownBlock) (.slice Ao23 y178.length co23) y178 t181 t182 w _ ?side1 ?side2 A2.out).mono ?_); (case side1 => repeat (first | (with_reducible first | exact HB.out | apply yA | apply yN | apply yD) | exact HB.out)); (case side2 => exact Kd.R_tight rfl HO180.out); rintro e w24 ⟨v183, rfl, ho0, hb, hkp⟩; refine ⟨_, rfl, ?_⟩; have HO184 := zK (Kd.R_mono (ok' := fun k_ => some k_ ≠ (v176 : Value).ownBlock) ho0 (fun k_ hk_ => Or.elim hk_ (fun hs_ => fun e_ => (((HO177.out).1 k_ e_.symm).2) hs_) (fun hn_ => (Kd.fresh' (Kd.R_lt (zr HO177)) k_ hn_)))); replace HO177 := zK (Kd.R_mono (ok' := fun k_ => some k_ ≠ (v183 : Value).ownBlock) (Kd.R_keptB (HO177.out) hkp (fun k_ hk_ hs_ => (hk_.2) hs_)) (fun k_ hk_ => fun e_ => Or.elim (ho0.1 k_ e_.symm) (fun hs_ => hk_.2.1 hs_) (fun hn_ => Nat.not_le.2 hk_.2.2 hn_))); replace HB := zK (hb); clear HO180; (try clear hb); (try clear hkp); (try clear ho0); obtain ⟨Ao25, co25, eo25⟩ := Kd.R_slice HO177.out; subst eo25; obtain ⟨Ao26, co26, eo26⟩ := Kd.R_slice HO184.out; subst eo26) | ((with_reducible refine zC (f := 13) rfl ?_); refine goesL_ (some 13) rfl rfl Tryd.func13 (by kernel_rfl) rfl #[.agg #[.int .i64 t174, .slice Ao25 t175.length co25], .agg #[.int .i64 t181, .slice Ao26 t182.length co26]] rfl (by (try simp only [List.map_toArray, List.map_cons, List.map_nil]); first | done | rfl | (simp only [List.length_drop, List.length_take]; rfl)) ?_; (with_reducible refine (lin_Add.calls k t174 (fun k_ => some k_ = (.slice Ao25 t175.length co25 : Value).ownBlock) _ _ t175 t181 (fun k_ => some k_ = (.slice Ao26 t182.length co26 : Value).ownBlock) _ _ t182 t185 t186 t189 _ ?side1 ?side2 A3.out).mono ?_); (case side1 => exact Kd.R_V (Kd.R_tight rfl (HO177.out))); (case side2 => exact Kd.R_V (Kd.R_tight rfl (HO184.out))); rintro e w27 ⟨v187, rfl, ho0, hb⟩; refine ⟨_, rfl, ?_⟩; have HO188 := zK (Kd.R_lower (Kd.R_new' (Kd.R_new' (Kd.R_mono (ok' := fun k_ => True) ho0 (fun _ hk_ => trivial)) (Kd.R_lt (zr HO177))) (Kd.R_lt (zr HO184))) (below_size (zo HB))); replace HO177 := zK (Kd.R_elder' (zr HO177) (Kd.R_base ho0) hb); replace HO184 := zK (Kd.R_elder' (zr HO184) (Kd.R_base ho0) hb); replace HB := zK (below_step (zo HB) hb); (try clear hb); (try clear hb2); (try clear hk); (try clear hi); (try clear ho0)) | ((with_reducible refine gate_dst (N := 1) rfl ?_); (try (refine zG (by rfl) ?_; dsimp only)); refine box_event ?hg (N := 1) ?hd (cs := #[.int .i64 0, .slice none 0 0]) (t := 28) ?hr ?_; (case hd => rfl); (case hg => rfl); (case hr => first | (go_simp; done) | (go_simp; rfl)); intro gb190 hg w28 hbox hb; replace HO177 := zK (Kd.R_below (zr HO177) hb); replace HO184 := zK (Kd.R_below (zr HO184) hb); replace HO188 := zK (Kd.R_below (zr HO188) hb); have BK190 := zK (hbox); have GW190 := zK ((by rw [hg]; exact (below_size (zo HB)) : w.heap.size ≤ gb190)); have GE190 := zK ((by rw [hg]; exact (below_size (zo HB)) : w.heap.size ≤ gb190)); replace HB := zK (below_step (zo HB) hb); clear hb hbox hg; have hcz29_0 : w28.cell? ⟨gb190, 0, none⟩ = some (.int .i64 0) := (blk_cell BK190.out 0).trans rfl; have hcz29_1 : w28.cell? ⟨gb190, 1, none⟩ = some (.slice none 0 0) := (blk_cell BK190.out 1).trans rfl; have hfz29_0 := blk_frozen BK190.out 0; have hfz29_1 := blk_frozen BK190.out 1; obtain ⟨Ao30, co30, eo30⟩ := Kd.R_slice HO188.out; subst eo30) | ((with_reducible refine gate_dst (N := 19) rfl ?_); (try (refine zG (by rfl) ?_; dsimp only)); refine Kd.R_lit k51 _ 51 ?hg (N := 19) ?hd (xs := ([(⟨0, 3⟩ : S51), (⟨1, (-2)⟩ : S51)] : List (S51))) (inner := [.int .i64 0, .int .i64 3, .int .i64 1, .int .i64 (-2)]) (ok := fun _ => True) (okp := fun _ => True) ?hr ?hp (fun _ hk => hk) trivial (Below.refl _ _) (Nat.le_refl _) (by simp) ?_; (case hd => rfl); (case hg => rfl); (case hr => first | (go_simp; done) | (go_simp; rfl)); (case hp => exact (Reps.c2 (show Kd.M k51 _ _ _ (⟨0, 3⟩ : S51) [.int .i64 0, .int .i64 3] from (k51_mkM _ _ _ (⟨0, 3⟩ : S51) )) (Reps.c2 (show Kd.M k51 _ _ _ (⟨1, (-2)⟩ : S51) [.int .i64 1, .int .i64 (-2)] from (k51_mkM _ _ _ (⟨1, (-2)⟩ : S51) )) (Reps.none _ _)))); intro v192 w31 ho32 hb hg_ hnew_; clear hg_ hnew_; (first | rw [← Ny191.out] at ho32 | (simp only [Int.reduceToNat] at ho32; rw [← Ny191.out] at ho32)); have HO193 := zK (Kd.R_lower (Kd.R_new' (Kd.R_new' (Kd.R_new' ho32 (Kd.R_lt (by (with_reducible repeat (first | apply Kd.R_alloc | apply Kd.R_drewN | apply Kd.R_drew)); exact (Kd.R_mono (Kd.R_far (p := ⟨gb190, 1, none⟩) (Kd.R_far (p := ⟨gb190, 0, none⟩) (Kd.R_types HO177.out BK190.out (by decide)) (fun _ hk => hk.2) (.int .i64 t185)) (fun _ hk => hk.2) (.slice Ao30 t186.length co30)) (fun _ h_ => h_.1))))) (Kd.R_lt (by (with_reducible repeat (first | apply Kd.R_alloc | apply Kd.R_drewN | apply Kd.R_drew)); exact (Kd.R_mono (Kd.R_far (p := ⟨gb190, 1, none⟩) (Kd.R_far (p := ⟨gb190, 0, none⟩) (Kd.R_types HO184.out BK190.out (by decide)) (fun _ hk => hk.2) (.int .i64 t185)) (fun _ hk => hk.2) (.slice Ao30 t186.length co30)) (fun _ h_ => h_.1))))) (Kd.R_lt (by (with_reducible repeat (first | apply Kd.R_alloc | apply Kd.R_drewN | apply Kd.R_drew)); exact (Kd.R_mono (Kd.R_far (p := ⟨gb190, 1, none⟩) (Kd.R_far (p := ⟨gb190, 0, none⟩) (Kd.R_types HO188.out BK190.out (by decide)) (fun _ hk => hk.2) (.int .i64 t185)) (fun _ hk => hk.2) (.slice Ao30 t186.length co30)) (fun _ h_ => h_.1))))) (below_size (zo HB))); replace HO177 := zK (Kd.R_elder' (by (with_reducible repeat (first | apply Kd.R_alloc | apply Kd.R_drewN | apply Kd.R_drew)); exact (Kd.R_mono (Kd.R_far (p := ⟨gb190, 1, none⟩) (Kd.R_far (p := ⟨gb190, 0, none⟩) (Kd.R_types HO177.out BK190.out (by decide)) (fun _ hk => hk.2) (.int .i64 t185)) (fun _ hk => hk.2) (.slice Ao30 t186.length co30)) (fun _ h_ => h_.1))) (Kd.R_base ho32) hb); replace HO184 := zK (Kd.R_elder' (by (with_reducible repeat (first | apply Kd.R_alloc | apply Kd.R_drewN | apply Kd.R_drew)); exact (Kd.R_mono (Kd.R_far (p := ⟨gb190, 1, none⟩) (Kd.R_far (p := ⟨gb190, 0, none⟩) (Kd.R_types HO184.out BK190.out (by decide)) (fun _ hk => hk.2) (.int .i64 t185)) (fun _ hk => hk.2) (.slice Ao30 t186.length co30)) (fun _ h_ => h_.1))) (Kd.R_base ho32) hb); replace HO188 := zK (Kd.R_elder' (by (with_reducible repeat (first | apply Kd.R_alloc | apply Kd.R_drewN | apply Kd.R_drew)); exact (Kd.R_mono (Kd.R_far (p := ⟨gb190, 1, none⟩) (Kd.R_far (p := ⟨gb190, 0, none⟩) (Kd.R_types HO188.out BK190.out (by decide)) (fun _ hk => hk.2) (.int .i64 t185)) (fun _ hk => hk.2) (.slice Ao30 t186.length co30)) (fun _ h_ => h_.1))) (Kd.R_base ho32) hb); replace BK190 := zK (blk_below (g := gb190) (o := .cells #[.int .i64 t185, .slice Ao30 t186.length co30] 28 (0, 0)) (by refine zM ?_; refine blk_put (cs := #[.int .i64 t185, .slice none 0 0]) ?_ 1 _ rfl; refine zM ?_; refine blk_put (cs := #[.int .i64 0, .slice none 0 0]) ?_ 0 _ rfl; refine zM ?_; exact BK190.out) hb); replace HB := zK (below_step (zo HB) hb); clear hb ho32; obtain ⟨Ao33, co33, eo33⟩ := Kd.R_slice HO193.out; subst eo33) | ((with_reducible refine zC (f := 29) rfl ?_); refine goesL_ (some 20) rfl rfl Tryd.func29 (by kernel_rfl) rfl #[.int .i64 0, .slice Ao33 y191.length co33] rfl (by (try simp only [List.map_toArray, List.map_cons, List.map_nil]); first | done | rfl | (simp only [List.length_drop, List.length_take]; rfl)) ?_; (with_reducible refine (sequiturlaw27_form.calls 0 (fun k_ => some k_ = (.slice Ao33 y191.length co33 : Value).ownBlock) (.slice Ao33 y191.length co33) y191 t194 t195 w _ ?side1 ?side2 A4.out).mono ?_); (case side1 => repeat (first | (with_reducible first | exact HB.out | apply yA | apply yN | apply yD | refine yS ?_ GE190.out) | exact HB.out)); (case side2 => exact Kd.R_tight rfl HO193.out); rintro e w34 ⟨v196, rfl, ho0, hb, hkp⟩; refine ⟨_, rfl, ?_⟩; replace BK190 := zK (blk_kept (zb BK190) hkp (fun hs_ => (fun e_ => (Kd.R_ne HO193.out BK190.out (by decide)) e_) hs_)); have HO197 := zK (Kd.R_mono (ok' := fun k_ => some k_ ≠ (.slice Ao25 t175.length co25 : Value).ownBlock ∧ some k_ ≠ (.slice Ao26 t182.length co26 : Value).ownBlock ∧ some k_ ≠ (.slice Ao30 t186.length co30 : Value).ownBlock) ho0 (fun k_ hk_ => ⟨Or.elim hk_ (fun hs_ => fun e_ => (((HO177.out).1 k_ e_.symm).2) hs_) (fun hn_ => (Kd.fresh' (Kd.R_lt (zr HO177)) k_ hn_)), Or.elim hk_ (fun hs_ => fun e_ => (((HO184.out).1 k_ e_.symm).2) hs_) (fun hn_ => (Kd.fresh' (Kd.R_lt (zr HO184)) k_ hn_)), Or.elim hk_ (fun hs_ => fun e_ => (((HO188.out).1 k_ e_.symm).2) hs_) (fun hn_ => (Kd.fresh' (Kd.R_lt (zr HO188)) k_ hn_))⟩)); replace HO177 := zK (Kd.R_mono (ok' := fun k_ => some k_ ≠ (.slice Ao26 t182.length co26 : Value).ownBlock ∧ some k_ ≠ (.slice Ao30 t186.length co30 : Value).ownBlock ∧ some k_ ≠ (v196 : Value).ownBlock) (Kd.R_keptB (HO177.out) hkp (fun k_ hk_ hs_ => (hk_.2) hs_)) (fun k_ hk_ => ⟨hk_.1.1.1, hk_.1.1.2, fun e_ => Or.elim (ho0.1 k_ e_.symm) (fun hs_ => hk_.2.1 hs_) (fun hn_ => Nat.not_le.2 hk_.2.2 hn_)⟩)); replace HO184 := zK (Kd.R_mono (ok' := fun k_ => some k_ ≠ (.slice Ao25 t175.length co25 : Value).ownBlock ∧ some k_ ≠ (.slice Ao30 t186.length co30 : Value).ownBlock ∧ some k_ ≠ (v196 : Value).ownBlock) (Kd.R_keptB (HO184.out) hkp (fun k_ hk_ hs_ => (hk_.2) hs_)) (fun k_ hk_ => ⟨hk_.1.1.1, hk_.1.1.2, fun e_ => Or.elim (ho0.1 k_ e_.symm) (fun hs_ => hk_.2.1 hs_) (fun hn_ => Nat.not_le.2 hk_.2.2 hn_)⟩)); replace HO188 := zK (Kd.R_mono (ok' := fun k_ => some k_ ≠ (.slice Ao25 t175.length co25 : Value).ownBlock ∧ some k_ ≠ (.slice Ao26 t182.length co26 : Value).ownBlock ∧ some k_ ≠ (v196 : Value).ownBlock) (Kd.R_keptB (HO188.out) hkp (fun k_ hk_ hs_ => (hk_.2) hs_)) (fun k_ hk_ => ⟨hk_.1.1.1.2, hk_.1.1.2, fun e_ => Or.elim (ho0.1 k_ e_.symm) (fun hs_ => hk_.2.1 hs_) (fun hn_ => Nat.not_le.2 hk_.2.2 hn_)⟩)); replace HB := zK (hb); clear HO193; (try clear hb); (try clear hkp); (try clear ho0)) | ((with_reducible refine gate_dst (N := 22) rfl ?_); (try (refine zG (by rfl) ?_; dsimp only)); refine Kd.R_lit k51 _ 51 ?hg (N := 22) ?hd (xs := ([(⟨0, 1⟩ : S51)] : List (S51))) (inner := [.int .i64 0, .int .i64 1]) (ok := fun _ => True) (okp := fun _ => True) ?hr ?hp (fun _ hk => hk) trivial (Below.refl _ _) (Nat.le_refl _) (by simp) ?_; (case hd => rfl); (case hg => rfl); (case hr => first | (go_simp; done) | (go_simp; rfl)); (case hp => exact (Reps.c2 (show Kd.M k51 _ _ _ (⟨0, 1⟩ : S51) [.int .i64 0, .int .i64 1] from (k51_mkM _ _ _ (⟨0, 1⟩ : S51) )) (Reps.none _ _))); intro v199 w35 ho36 hb hg_ hnew_; clear hg_ hnew_; (first | rw [← Ny198.out] at ho36 | (simp only [Int.reduceToNat] at ho36; rw [← Ny198.out] at ho36)); have HO200 := zK (Kd.R_lower (Kd.R_new' (Kd.R_new' (Kd.R_new' (Kd.R_new' ho36 (Kd.R_lt (zr HO177))) (Kd.R_lt (zr HO184))) (Kd.R_lt (zr HO188))) (Kd.R_lt (zr HO197))) (below_size (zo HB))); replace HO177 := zK (Kd.R_elder' (zr HO177) (Kd.R_base ho36) hb); replace HO184 := zK (Kd.R_elder' (zr HO184) (Kd.R_base ho36) hb); replace HO188 := zK (Kd.R_elder' (zr HO188) (Kd.R_base ho36) hb); replace HO197 := zK (Kd.R_elder' (zr HO197) (Kd.R_base ho36) hb); replace BK190 := zK (blk_below (g := gb190) (o := .cells #[.int .i64 t185, .slice Ao30 t186.length co30] 28 (0, 0)) (zb BK190) hb); replace HB := zK (below_step (zo HB) hb); clear hb ho36; obtain ⟨Ao37, co37, eo37⟩ := Kd.R_slice HO200.out; subst eo37) | ((with_reducible refine zC (f := 29) rfl ?_); refine goesL_ (some 23) rfl rfl Tryd.func29 (by kernel_rfl) rfl #[.int .i64 1, .slice Ao37 y198.length co37] rfl (by (try simp only [List.map_toArray, List.map_cons, List.map_nil]); first | done | rfl | (simp only [List.length_drop, List.length_take]; rfl)) ?_; (with_reducible refine (sequiturlaw27_form.calls 1 (fun k_ => some k_ = (.slice Ao37 y198.length co37 : Value).ownBlock) (.slice Ao37 y198.length co37) y198 t201 t202 w _ ?side1 ?side2 A5.out).mono ?_); (case side1 => repeat (first | (with_reducible first | exact HB.out | apply yA | apply yN | apply yD | refine yS ?_ GE190.out) | exact HB.out)); (case side2 => exact Kd.R_tight rfl HO200.out); rintro e w38 ⟨v203, rfl, ho0, hb, hkp⟩; refine ⟨_, rfl, ?_⟩; replace BK190 := zK (blk_kept (zb BK190) hkp (fun hs_ => (fun e_ => (Kd.R_ne HO200.out BK190.out (by decide)) e_) hs_)); have HO204 := zK (Kd.R_mono (ok' := fun k_ => some k_ ≠ (.slice Ao25 t175.length co25 : Value).ownBlock ∧ some k_ ≠ (.slice Ao26 t182.length co26 : Value).ownBlock ∧ some k_ ≠ (.slice Ao30 t186.length co30 : Value).ownBlock ∧ some k_ ≠ (v196 : Value).ownBlock) ho0 (fun k_ hk_ => ⟨Or.elim hk_ (fun hs_ => fun e_ => (((HO177.out).1 k_ e_.symm).2) hs_) (fun hn_ => (Kd.fresh' (Kd.R_lt (zr HO177)) k_ hn_)), Or.elim hk_ (fun hs_ => fun e_ => (((HO184.out).1 k_ e_.symm).2) hs_) (fun hn_ => (Kd.fresh' (Kd.R_lt (zr HO184)) k_ hn_)), Or.elim hk_ (fun hs_ => fun e_ => (((HO188.out).1 k_ e_.symm).2) hs_) (fun hn_ => (Kd.fresh' (Kd.R_lt (zr HO188)) k_ hn_)), Or.elim hk_ (fun hs_ => fun e_ => (((HO197.out).1 k_ e_.symm).2) hs_) (fun hn_ => (Kd.fresh' (Kd.R_lt (zr HO197)) k_ hn_))⟩)); replace HO177 := zK (Kd.R_mono (ok' := fun k_ => some k_ ≠ (.slice Ao26 t182.length co26 : Value).ownBlock ∧ some k_ ≠ (.slice Ao30 t186.length co30 : Value).ownBlock ∧ some k_ ≠ (v196 : Value).ownBlock ∧ some k_ ≠ (v203 : Value).ownBlock) (Kd.R_keptB (HO177.out) hkp (fun k_ hk_ hs_ => (hk_.2) hs_)) (fun k_ hk_ => ⟨hk_.1.1.1, hk_.1.1.2.1, hk_.1.1.2.2, fun e_ => Or.elim (ho0.1 k_ e_.symm) (fun hs_ => hk_.2.1 hs_) (fun hn_ => Nat.not_le.2 hk_.2.2 hn_)⟩)); replace HO184 := zK (Kd.R_mono (ok' := fun k_ => some k_ ≠ (.slice Ao25 t175.length co25 : Value).ownBlock ∧ some k_ ≠ (.slice Ao30 t186.length co30 : Value).ownBlock ∧ some k_ ≠ (v196 : Value).ownBlock ∧ some k_ ≠ (v203 : Value).ownBlock) (Kd.R_keptB (HO184.out) hkp (fun k_ hk_ hs_ => (hk_.2) hs_)) (fun k_ hk_ => ⟨hk_.1.1.1, hk_.1.1.2.1, hk_.1.1.2.2, fun e_ => Or.elim (ho0.1 k_ e_.symm) (fun hs_ => hk_.2.1 hs_) (fun hn_ => Nat.not_le.2 hk_.2.2 hn_)⟩)); replace HO188 := zK (Kd.R_mono (ok' := fun k_ => some k_ ≠ (.slice Ao25 t175.length co25 : Value).ownBlock ∧ some k_ ≠ (.slice Ao26 t182.length co26 : Value).ownBlock ∧ some k_ ≠ (v196 : Value).ownBlock ∧ some k_ ≠ (v203 : Value).ownBlock) (Kd.R_keptB (HO188.out) hkp (fun k_ hk_ hs_ => (hk_.2) hs_)) (fun k_ hk_ => ⟨hk_.1.1.1, hk_.1.1.2.1, hk_.1.1.2.2, fun e_ => Or.elim (ho0.1 k_ e_.symm) (fun hs_ => hk_.2.1 hs_) (fun hn_ => Nat.not_le.2 hk_.2.2 hn_)⟩)); replace HO197 := zK (Kd.R_mono (ok' := fun k_ => some k_ ≠ (.slice Ao25 t175.length co25 : Value).ownBlock ∧ some k_ ≠ (.slice Ao26 t182.length co26 : Value).ownBlock ∧ some k_ ≠ (.slice Ao30 t186.length co30 : Value).ownBlock ∧ some k_ ≠ (v203 : Value).ownBlock) (Kd.R_keptB (HO197.out) hkp (fun k_ hk_ hs_ => (hk_.2) hs_)) (fun k_ hk_ => ⟨hk_.1.1.1, hk_.1.1.2.1, hk_.1.1.2.2, fun e_ => Or.elim (ho0.1 k_ e_.symm) (fun hs_ => hk_.2.1 hs_) (fun hn_ => Nat.not_le.2 hk_.2.2 hn_)⟩)); replace HB := zK (hb); clear HO200; (try clear hb); (try clear hkp); (try clear ho0); obtain ⟨Ao39, co39, eo39⟩ := Kd.R_slice HO197.out; subst eo39; obtain ⟨Ao40, co40, eo40⟩ := Kd.R_slice HO204.out; subst eo40) | ((with_reducible refine zC (f := 15) rfl ?_); refine goesL_ (some 24) rfl rfl Tryd.func15 (by kernel_rfl) rfl #[.agg #[.int .i64 t194, .slice Ao39 t195.length co39], .int .i64 1, .agg #[.int .i64 t201, .slice Ao40 t202.length co40]] rfl (by (try simp only [List.map_toArray, List.map_cons, List.map_nil]); first | done | rfl | (simp only [List.length_drop, List.length_take]; rfl)) ?_; (with_reducible refine (lin_Put.calls k t194 (fun k_ => some k_ = (.slice Ao39 t195.length co39 : Value).ownBlock) _ _ t195 1 t201 (fun k_ => some k_ = (.slice Ao40 t202.length co40 : Value).ownBlock) _ _ t202 t205 t206 t209 _ ?side1 ?side2 A6.out).mono ?_); (case side1 => exact Kd.R_V (Kd.R_tight rfl (Kd.R_types (HO197.out) BK190.out (by decide)))); (case side2 => exact Kd.R_V (Kd.R_tight rfl (Kd.R_types (HO204.out) BK190.out (by decide)))); rintro e w41 ⟨v207, rfl, ho0, hb⟩; refine ⟨_, rfl, ?_⟩; have HO208 := zK (Kd.R_lower (Kd.R_new' (Kd.R_new' (Kd.R_new' (Kd.R_new' (Kd.R_new' (Kd.R_mono (ok' := fun k_ => True) ho0 (fun _ hk_ => trivial)) (Kd.R_lt (zr HO177))) (Kd.R_lt (zr HO184))) (Kd.R_lt (zr HO188))) (Kd.R_lt (zr HO197))) (Kd.R_lt (zr HO204))) (below_size (zo HB))); replace HO177 := zK (Kd.R_elder' (zr HO177) (Kd.R_base ho0) hb); replace HO184 := zK (Kd.R_elder' (zr HO184) (Kd.R_base ho0) hb); replace HO188 := zK (Kd.R_elder' (zr HO188) (Kd.R_base ho0) hb); replace HO197 := zK (Kd.R_elder' (zr HO197) (Kd.R_base ho0) hb); replace HO204 := zK (Kd.R_elder' (zr HO204) (Kd.R_base ho0) hb); replace BK190 := zK (blk_below (g := gb190) (o := .cells #[.int .i64 t185, .slice Ao30 t186.length co30] 28 (0, 0)) (zb BK190) hb); replace HB := zK (below_step (zo HB) hb); (try clear hb); (try clear hb2); (try clear hk); (try clear hi); (try clear ho0)) | ((with_reducible refine gate_dst (N := 3) rfl ?_); (try (refine zG (by rfl) ?_; dsimp only)); refine box_event ?hg (N := 3) ?hd (cs := #[.int .i64 0, .slice none 0 0]) (t := 28) ?hr ?_; (case hd => rfl); (case hg => rfl); (case hr => first | (go_simp; done) | (go_simp; rfl)); intro gb210 hg w42 hbox hb; replace HO177 := zK (Kd.R_below (zr HO177) hb); replace HO184 := zK (Kd.R_below (zr HO184) hb); replace HO188 := zK (Kd.R_below (zr HO188) hb); replace HO197 := zK (Kd.R_below (zr HO197) hb); replace HO204 := zK (Kd.R_below (zr HO204) hb); replace HO208 := zK (Kd.R_below (zr HO208) hb); have BK210 := zK (hbox); have GW210 := zK ((by rw [hg]; exact (below_size (zo HB)) : w.heap.size ≤ gb210)); have GE210 := zK ((by rw [hg]; exact (below_size (zo HB)) : w.heap.size ≤ gb210)); replace HB := zK (below_step (zo HB) hb); have NB190_210 := zK ((by rw [hg]; exact Nat.ne_of_lt (blk_lt (g := gb190) (o := .cells #[.int .i64 t185, .slice Ao30 t186.length co30] 28 (0, 0)) (zb BK190)) : gb190 ≠ gb210)); have NB210_190 := zK ((by rw [hg]; exact Nat.ne_of_gt (blk_lt (g := gb190) (o := .cells #[.int .i64 t185, .slice Ao30 t186.length co30] 28 (0, 0)) (zb BK190)) : gb210 ≠ gb190)); replace BK190 := zK (blk_below (g := gb190) (o := .cells #[.int .i64 t185, .slice Ao30 t186.length co30] 28 (0, 0)) (zb BK190) hb); clear hb hbox hg; have hnb43 := NB210_190.out; have hnc43 := NB190_210.out; have hcz44_0 : w42.cell? ⟨gb210, 0, none⟩ = some (.int .i64 0) := (blk_cell BK210.out 0).trans rfl; have hcz44_1 : w42.cell? ⟨gb210, 1, none⟩ = some (.slice none 0 0) := (blk_cell BK210.out 1).trans rfl; have hfz44_0 := blk_frozen BK210.out 0; have hfz44_1 := blk_frozen BK210.out 1; obtain ⟨Ao45, co45, eo45⟩ := Kd.R_slice HO208.out; subst eo45))
     have n0_ : Aside0 (Kd.R k51 51 ((w42.setCell ⟨gb210, 0, none⟩ (.int .i64 t205)).setCell ⟨gb210, 1, none⟩ (.slice Ao45 t206.length co45)) w.heap.size (fun k_ => some k_ ≠ (.slice Ao26 t182.length co26 : Value).ownBlock ∧ some k_ ≠ (.slice Ao30 t186.length co30 : Value).ownBlock ∧ some k_ ≠ (.slice Ao39 t195.length co39 : Value).ownBlock ∧ some k_ ≠ (.slice Ao40 t202.length co40 : Value).ownBlock ∧ some k_ ≠ (.slice Ao45 t206.length co45 : Value).ownBlock) (.slice Ao25 t175.length co25) t175) := ⟨by (with_reducible repeat (first | apply Kd.R_alloc | apply Kd.R_drewN | apply Kd.R_drew)); exact Kd.R_mono (Kd.R_far (p := ⟨gb210, 1, none⟩) (Kd.R_far (p := ⟨gb210, 0, none⟩) (Kd.R_types HO177.out BK210.out (by decide)) (fun _ hk => hk.2) (.int .i64 t205)) (fun _ hk => hk.2) (.slice Ao45 t206.length co45)) (fun _ hk => ⟨hk.1.1.1, ⟨hk.1.1.2.1, ⟨hk.1.1.2.2.1, ⟨hk.1.1.2.2.2, hk.1.2⟩⟩⟩⟩)⟩
     have n1_ : Aside0 (Kd.R k51 51 ((w42.setCell ⟨gb210, 0, none⟩ (.int .i64 t205)).setCell ⟨gb210, 1, none⟩ (.slice Ao45 t206.length co45)) w.heap.size (fun k_ => some k_ ≠ (.slice Ao25 t175.length co25 : Value).ownBlock ∧ some k_ ≠ (.slice Ao30 t186.length co30 : Value).ownBlock ∧ some k_ ≠ (.slice Ao39 t195.length co39 : Value).ownBlock ∧ some k_ ≠ (.slice Ao40 t202.length co40 : Value).ownBlock ∧ some k_ ≠ (.slice Ao45 t206.length co45 : Value).ownBlock) (.slice Ao26 t182.length co26) t182) := ⟨by (with_reducible repeat (first | apply Kd.R_alloc | apply Kd.R_drewN | apply Kd.R_drew)); exact Kd.R_mono (Kd.R_far (p := ⟨gb210, 1, none⟩) (Kd.R_far (p := ⟨gb210, 0, none⟩) (Kd.R_types HO184.out BK210.out (by decide)) (fun _ hk => hk.2) (.int .i64 t205)) (fun _ hk => hk.2) (.slice Ao45 t206.length co45)) (fun _ hk => ⟨hk.1.1.1, ⟨hk.1.1.2.1, ⟨hk.1.1.2.2.1, ⟨hk.1.1.2.2.2, hk.1.2⟩⟩⟩⟩)⟩
     have n2_ : Aside0 (Kd.R k51 51 ((w42.setCell ⟨gb210, 0, none⟩ (.int .i64 t205)).setCell ⟨gb210, 1, none⟩ (.slice Ao45 t206.length co45)) w.heap.size (fun k_ => some k_ ≠ (.slice Ao25 t175.length co25 : Value).ownBlock ∧ some k_ ≠ (.slice Ao26 t182.length co26 : Value).ownBlock ∧ some k_ ≠ (.slice Ao39 t195.length co39 : Value).ownBlock ∧ some k_ ≠ (.slice Ao40 t202.length co40 : Value).ownBlock ∧ some k_ ≠ (.slice Ao45 t206.length co45 : Value).ownBlock) (.slice Ao30 t186.length co30) t186) := ⟨by (with_reducible repeat (first | apply Kd.R_alloc | apply Kd.R_drewN | apply Kd.R_drew)); exact Kd.R_mono (Kd.R_far (p := ⟨gb210, 1, none⟩) (Kd.R_far (p := ⟨gb210, 0, none⟩) (Kd.R_types HO188.out BK210.out (by decide)) (fun _ hk => hk.2) (.int .i64 t205)) (fun _ hk => hk.2) (.slice Ao45 t206.length co45)) (fun _ hk => ⟨hk.1.1.1, ⟨hk.1.1.2.1, ⟨hk.1.1.2.2.1, ⟨hk.1.1.2.2.2, hk.1.2⟩⟩⟩⟩)⟩
     have n3_ : Aside0 (Kd.R k51 51 ((w42.setCell ⟨gb210, 0, none⟩ (.int .i64 t205)).setCell ⟨gb210, 1, none⟩ (.slice Ao45 t206.length co45)) w.heap.size (fun k_ => some k_ ≠ (.slice Ao25 t175.length co25 : Value).ownBlock ∧ some k_ ≠ (.slice Ao26 t182.length co26 : Value).ownBlock ∧ some k_ ≠ (.slice Ao30 t186.length co30 : Value).ownBlock ∧ some k_ ≠ (.slice Ao40 t202.length co40 : Value).ownBlock ∧ some k_ ≠ (.slice Ao45 t206.length co45 : Value).ownBlock) (.slice Ao39 t195.length co39) t195) := ⟨by (with_reducible repeat (first | apply Kd.R_alloc | apply Kd.R_drewN | apply Kd.R_drew)); exact Kd.R_mono (Kd.R_far (p := ⟨gb210, 1, none⟩) (Kd.R_far (p := ⟨gb210, 0, none⟩) (Kd.R_types HO197.out BK210.out (by decide)) (fun _ hk => hk.2) (.int .i64 t205)) (fun _ hk => hk.2) (.slice Ao45 t206.length co45)) (fun _ hk => ⟨hk.1.1.1, ⟨hk.1.1.2.1, ⟨hk.1.1.2.2.1, ⟨hk.1.1.2.2.2, hk.1.2⟩⟩⟩⟩)⟩
     have n4_ : Aside0 (Kd.R k51 51 ((w42.setCell ⟨gb210, 0, none⟩ (.int .i64 t205)).setCell ⟨gb210, 1, none⟩ (.slice Ao45 t206.length co45)) w.heap.size (fun k_ => some k_ ≠ (.slice Ao25 t175.length co25 : Value).ownBlock ∧ some k_ ≠ (.slice Ao26 t182.length co26 : Value).ownBlock ∧ some k_ ≠ (.slice Ao30 t186.length co30 : Value).ownBlock ∧ some k_ ≠ (.slice Ao39 t195.length co39 : Value).ownBlock ∧ some k_ ≠ (.slice Ao45 t206.length co45 : Value).ownBlock) (.slice Ao40 t202.length co40) t202) := ⟨by (with_reducible repeat (first | apply Kd.R_alloc | apply Kd.R_drewN | apply Kd.R_drew)); exact Kd.R_mono (Kd.R_far (p := ⟨gb210, 1, none⟩) (Kd.R_far (p := ⟨gb210, 0, none⟩) (Kd.R_types HO204.out BK210.out (by decide)) (fun _ hk => hk.2) (.int .i64 t205)) (fun _ hk => hk.2) (.slice Ao45 t206.length co45)) (fun _ hk => ⟨hk.1.1.1, ⟨hk.1.1.2.1, ⟨hk.1.1.2.2.1, ⟨hk.1.1.2.2.2, hk.1.2⟩⟩⟩⟩)⟩
     have n5_ : Aside0 (Kd.R k51 51 ((w42.setCell ⟨gb210, 0, none⟩ (.int .i64 t205)).setCell ⟨gb210, 1, none⟩ (.slice Ao45 t206.length co45)) w.heap.size (fun k_ => some k_ ≠ (.slice Ao25 t175.length co25 : Value).ownBlock ∧ some k_ ≠ (.slice Ao26 t182.length co26 : Value).ownBlock ∧ some k_ ≠ (.slice Ao30 t186.length co30 : Value).ownBlock ∧ some k_ ≠ (.slice Ao39 t195.length co39 : Value).ownBlock ∧ some k_ ≠ (.slice Ao40 t202.length co40 : Value).ownBlock) (.slice Ao45 t206.length co45) t206) := ⟨by (with_reducible repeat (first | apply Kd.R_alloc | apply Kd.R_drewN | apply Kd.R_drew)); exact Kd.R_mono (Kd.R_far (p := ⟨gb210, 1, none⟩) (Kd.R_far (p := ⟨gb210, 0, none⟩) (Kd.R_types HO208.out BK210.out (by decide)) (fun _ hk => hk.2) (.int .i64 t205)) (fun _ hk => hk.2) (.slice Ao45 t206.length co45)) (fun _ hk => ⟨hk.1.1.1.1.1.2, ⟨hk.1.1.1.1.2, ⟨hk.1.1.1.2, ⟨hk.1.1.2, hk.1.2⟩⟩⟩⟩)⟩
     have n6_ : Aside0 (((w42.setCell ⟨gb210, 0, none⟩ (.int .i64 t205)).setCell ⟨gb210, 1, none⟩ (.slice Ao45 t206.length co45)).heap[gb190]? = some (.cells #[.int .i64 t185, .slice Ao30 t186.length co30] 28 (0, 0))) := ⟨zb BK190⟩
     have n7_ : Aside0 (((w42.setCell ⟨gb210, 0, none⟩ (.int .i64 t205)).setCell ⟨gb210, 1, none⟩ (.slice Ao45 t206.length co45)).heap[gb210]? = some (.cells #[.int .i64 t205, .slice Ao45 t206.length co45] 28 (0, 0))) := ⟨by refine zM ?_; refine blk_put (cs := #[.int .i64 t205, .slice none 0 0]) ?_ 1 _ rfl; refine zM ?_; refine blk_put (cs := #[.int .i64 0, .slice none 0 0]) ?_ 0 _ rfl; refine zM ?_; exact BK210.out⟩
     have n8_ : Aside0 (Below w.heap.size w ((w42.setCell ⟨gb210, 0, none⟩ (.int .i64 t205)).setCell ⟨gb210, 1, none⟩ (.slice Ao45 t206.length co45))) := ⟨zo HB⟩
     (try clear HO177)
     (try clear HO184)
     (try clear HO188)
     (try clear HO197)
     (try clear HO204)
     (try clear HO208)
     (try clear BK190)
     (try clear BK210)
     (try clear HB)
     generalize ((w42.setCell ⟨gb210, 0, none⟩ (.int .i64 t205)).setCell ⟨gb210, 1, none⟩ (.slice Ao45 t206.length co45)) = w46 at n0_ n1_ n2_ n3_ n4_ n5_ n6_ n7_ n8_ ⊢
     have HO177 := n0_
     have HO184 := n1_
     have HO188 := n2_
     have HO197 := n3_
     have HO204 := n4_
     have HO208 := n5_
     have BK190 := n6_
     have BK210 := n7_
     have HB := n8_
     clear n0_ n1_ n2_ n3_ n4_ n5_ n6_ n7_ n8_
     replace HO177 := zK (Kd.R_drew HO177.out)
     replace HO184 := zK (Kd.R_drew HO184.out)
     replace HO188 := zK (Kd.R_drew HO188.out)
     replace HO197 := zK (Kd.R_drew HO197.out)
     replace HO204 := zK (Kd.R_drew HO204.out)
     replace HO208 := zK (Kd.R_drew HO208.out)
     replace BK190 := zK (zD BK190.out)
     replace BK210 := zK (zD BK210.out)
     replace HB := zK (yD HB.out)
     refine start_ (n := 28) (S := fun w' => w'.cell? ⟨gb190, 0, none⟩ = some (.int .i64 t185) ∧ w'.cell? ⟨gb190, 1, none⟩ = some (.slice Ao30 t186.length co30) ∧ w'.cell? ⟨gb210, 0, none⟩ = some (.int .i64 t205) ∧ w'.cell? ⟨gb210, 1, none⟩ = some (.slice Ao45 t206.length co45)) (ds := []) #[false, false, false, false, false, false, false, false, false, false, false, false, false, false, false, false, false, false, false, false, false, false, false, false, false, false, false, false] (by kernel_rfl) rfl rfl ⟨(blk_cell BK190.out 0).trans rfl, (blk_cell BK190.out 1).trans rfl, (blk_cell BK210.out 0).trans rfl, (blk_cell BK210.out 1).trans rfl⟩ (fun hHeld => ?_); refine with_tabW sequiturlaw27_alive.tab3 sequiturlaw27_alive.bits3 (fun HT_ HW_ => ?_)
     generalize w46.drew = w47 at HO177 HO184 HO188 HO197 HO204 HO208 BK190 BK210 HB hHeld ⊢
     refine pure_ (i := 0) (N := some 27) (v := ?_) (a' := ?_) #[true, false, false, false, false, false, false, false, false, false, false, false, false, false, false, false, false, false, false, false, false, false, false, false, false, false, false, false] rfl rfl (any_of HT_.out (by kernel_rfl)) (fun _ _ _ h => h) (Or.inl ⟨by rfl, ?_⟩) ?_ ?_
     rotate_left
     ·intro w'
      go_simp
      with_reducible rfl
     rotate_left
     ·simp only [Act.put, List.setIfInBounds_toArray, List.set_cons_zero, List.set_cons_succ, i64_w, i32_w]
      rfl
     refine pure_ (i := 1) (N := some 28) (v := ?_) (a' := ?_) #[true, true, false, false, false, false, false, false, false, false, false, false, false, false, false, false, false, false, false, false, false, false, false, false, false, false, false, false] rfl rfl (any_of HT_.out (by kernel_rfl)) (fun _ _ _ h => h) (Or.inl ⟨by rfl, ?_⟩) ?_ ?_
     rotate_left
     ·intro w'
      go_simp
      with_reducible rfl
     rotate_left
     ·simp only [Act.put, List.setIfInBounds_toArray, List.set_cons_zero, List.set_cons_succ, i64_w, i32_w]
      rfl
     refine pure_ (i := 2) (N := some 29) (v := ?_) (a' := ?_) #[true, true, true, false, false, false, false, false, false, false, false, false, false, false, false, false, false, false, false, false, false, false, false, false, false, false, false, false] rfl rfl (any_of HT_.out (by kernel_rfl)) (fun _ _ _ h => h) (Or.inl ⟨by rfl, ?_⟩) ?_ ?_
     rotate_left
     ·intro w'
      go_simp
      with_reducible rfl
     rotate_left
     ·simp only [Act.put, List.setIfInBounds_toArray, List.set_cons_zero, List.set_cons_succ, i64_w, i32_w]
      rfl
     refine pure_ (i := 4) (N := some 31) (v := ?_) (a' := ?_) #[true, true, true, false, true, false, false, false, false, false, false, false, false, false, false, false, false, false, false, false, false, false, false, false, false, false, false, false] rfl rfl (any_of HT_.out (by kernel_rfl)) (fun _ _ _ h => h) (Or.inl ⟨by rfl, ?_⟩) ?_ ?_
     rotate_left
     ·intro w'
      go_simp
      with_reducible rfl
     rotate_left
     ·simp only [Act.put, List.setIfInBounds_toArray, List.set_cons_zero, List.set_cons_succ, i64_w, i32_w]
      rfl
     refine take_ (i := 3) (N := some 30) (v := ?_) (a' := ?_) #[true, true, true, true, true, false, false, false, false, false, false, false, false, false, false, false, false, false, false, false, false, false, false, false, false, false, false, false] rfl rfl (take_ofW HT_.out HW_.out (by kernel_rfl)) (fun _ _ _ h => h) (Or.inl ⟨by rfl, ?_⟩) hHeld ?_ ?_
     rotate_left
     ·rintro w' ⟨s0, s1, s2, s3⟩
      go_simp
      with_reducible rfl
     rotate_left
     ·simp only [Act.put, List.setIfInBounds_toArray, List.set_cons_zero, List.set_cons_succ, i64_w, i32_w]
      rfl
     refine one_ (i := 5) (N := some 32) #[true, true, true, true, true, true, false, false, false, false, false, false, false, false, false, false, false, false, false, false, false, false, false, false, false, false, false, false] rfl rfl (one_of HT_.out (by kernel_rfl)) (by decide) (fun K hK => ?_)
     refine Kd.R_lit_step k51 _ 51 ?hg (N := 32) ?hd (xs := ([(⟨0, 3⟩ : S51)] : List (S51))) (inner := [.int .i64 0, .int .i64 3]) (ok := fun _ => True) (okp := fun _ => True) ?hr ?hp (fun _ hk => hk) trivial (Below.refl _ _) (Nat.le_refl _) (by simp) ?_; (case hd => rfl); (case hg => rfl); (case hr => first | (go_simp; done) | (go_simp; rfl)); (case hp => exact (Reps.c2 (show Kd.M k51 _ _ _ (⟨0, 3⟩ : S51) [.int .i64 0, .int .i64 3] from (k51_mkM _ _ _ (⟨0, 3⟩ : S51) )) (Reps.none _ _)))
     intro v212 w48 ho49 hb hg_ hnew_
     clear hg_ hnew_
     (first | rw [← Ny211.out] at ho49 | (simp only [Int.reduceToNat] at ho49; rw [← Ny211.out] at ho49))
     have HO213 := zK (Kd.R_lower (Kd.R_new' (Kd.R_new' (Kd.R_new' (Kd.R_new' (Kd.R_new' (Kd.R_new' ho49 (Kd.R_lt (zr HO177))) (Kd.R_lt (zr HO184))) (Kd.R_lt (zr HO188))) (Kd.R_lt (zr HO197))) (Kd.R_lt (zr HO204))) (Kd.R_lt (zr HO208))) (below_size (zo HB)))
     replace HO177 := zK (Kd.R_elder' (zr HO177) (Kd.R_base ho49) hb)
     replace HO184 := zK (Kd.R_elder' (zr HO184) (Kd.R_base ho49) hb)
     replace HO188 := zK (Kd.R_elder' (zr HO188) (Kd.R_base ho49) hb)
     replace HO197 := zK (Kd.R_elder' (zr HO197) (Kd.R_base ho49) hb)
     replace HO204 := zK (Kd.R_elder' (zr HO204) (Kd.R_base ho49) hb)
     replace HO208 := zK (Kd.R_elder' (zr HO208) (Kd.R_base ho49) hb)
     replace BK190 := zK (blk_below (g := gb190) (o := .cells #[.int .i64 t185, .slice Ao30 t186.length co30] 28 (0, 0)) (zb BK190) hb)
     replace BK210 := zK (blk_below (g := gb210) (o := .cells #[.int .i64 t205, .slice Ao45 t206.length co45] 28 (0, 0)) (zb BK210) hb)
     replace HB := zK (below_step (zo HB) hb)
     clear hb ho49
     obtain ⟨Ao50, co50, eo50⟩ := Kd.R_slice HO213.out
     (first | subst eo50 | (injection eo50 with f1_ f2_ f3_; have f4_ := f1_.symm; have f5_ := f3_.symm; clear f1_ f2_ f3_; subst f4_; subst f5_))
     refine hK.out _ _ ⟨(blk_cell BK190.out 0).trans rfl, (blk_cell BK190.out 1).trans rfl, (blk_cell BK210.out 0).trans rfl, (blk_cell BK210.out 1).trans rfl⟩ (fun hHeld => ?_)
     clear hK K
     refine norm_ (a' := ?_) ?_ ?_
     rotate_left
     ·show Act.put _ (some 32) _ = _
      simp only [Act.put, List.setIfInBounds_toArray, List.set_cons_zero, List.set_cons_succ, i64_w, i32_w]
      rfl
     refine one_ (i := 6) (N := some 33) #[true, true, true, true, true, true, true, false, false, false, false, false, false, false, false, false, false, false, false, false, false, false, false, false, false, false, false, false] rfl rfl (one_of HT_.out (by kernel_rfl)) (by decide) (fun K hK => ?_)
     refine goes_ Tryd.func29 (by kernel_rfl) rfl #[.int .i64 0, .slice Ao50 y211.length co50] (by rfl) rfl rfl (by (try simp only [List.map_toArray, List.map_cons, List.map_nil]); first | done | rfl | (simp only [List.length_drop, List.length_take]; rfl)) ?_
     with_reducible refine (sequiturlaw27_form.calls 0 (fun k_ => some k_ = (.slice Ao50 y211.length co50 : Value).ownBlock) (.slice Ao50 y211.length co50) y211 t214 t215 w _ ?side1 ?side2 A8.out).mono ?_
     (case side1 => repeat (first | (with_reducible first | exact HB.out | apply yA | apply yN | apply yD | refine yS ?_ GE190.out | refine yS ?_ GE210.out) | exact HB.out))
     (case side2 => exact Kd.R_tight rfl HO213.out)
     rintro e w51 ⟨v216, rfl, ho0, hb, hkp⟩
     refine ⟨_, rfl, ?_⟩
     replace BK190 := zK (blk_kept (zb BK190) hkp (fun hs_ => (fun e_ => (Kd.R_ne HO213.out BK190.out (by decide)) e_) hs_))
     replace BK210 := zK (blk_kept (zb BK210) hkp (fun hs_ => (fun e_ => (Kd.R_ne HO213.out BK210.out (by decide)) e_) hs_))
     have HO217 := zK (Kd.R_mono (ok' := fun k_ => some k_ ≠ (.slice Ao25 t175.length co25 : Value).ownBlock ∧ some k_ ≠ (.slice Ao26 t182.length co26 : Value).ownBlock ∧ some k_ ≠ (.slice Ao30 t186.length co30 : Value).ownBlock ∧ some k_ ≠ (.slice Ao39 t195.length co39 : Value).ownBlock ∧ some k_ ≠ (.slice Ao40 t202.length co40 : Value).ownBlock ∧ some k_ ≠ (.slice Ao45 t206.length co45 : Value).ownBlock) ho0 (fun k_ hk_ => ⟨Or.elim hk_ (fun hs_ => fun e_ => (((HO177.out).1 k_ e_.symm).2) hs_) (fun hn_ => (Kd.fresh' (Kd.R_lt (zr HO177)) k_ hn_)), Or.elim hk_ (fun hs_ => fun e_ => (((HO184.out).1 k_ e_.symm).2) hs_) (fun hn_ => (Kd.fresh' (Kd.R_lt (zr HO184)) k_ hn_)), Or.elim hk_ (fun hs_ => fun e_ => (((HO188.out).1 k_ e_.symm).2) hs_) (fun hn_ => (Kd.fresh' (Kd.R_lt (zr HO188)) k_ hn_)), Or.elim hk_ (fun hs_ => fun e_ => (((HO197.out).1 k_ e_.symm).2) hs_) (fun hn_ => (Kd.fresh' (Kd.R_lt (zr HO197)) k_ hn_)), Or.elim hk_ (fun hs_ => fun e_ => (((HO204.out).1 k_ e_.symm).2) hs_) (fun hn_ => (Kd.fresh' (Kd.R_lt (zr HO204)) k_ hn_)), Or.elim hk_ (fun hs_ => fun e_ => (((HO208.out).1 k_ e_.symm).2) hs_) (fun hn_ => (Kd.fresh' (Kd.R_lt (zr HO208)) k_ hn_))⟩))
     replace HO177 := zK (Kd.R_mono (ok' := fun k_ => some k_ ≠ (.slice Ao26 t182.length co26 : Value).ownBlock ∧ some k_ ≠ (.slice Ao30 t186.length co30 : Value).ownBlock ∧ some k_ ≠ (.slice Ao39 t195.length co39 : Value).ownBlock ∧ some k_ ≠ (.slice Ao40 t202.length co40 : Value).ownBlock ∧ some k_ ≠ (.slice Ao45 t206.length co45 : Value).ownBlock ∧ some k_ ≠ (v216 : Value).ownBlock) (Kd.R_keptB (HO177.out) hkp (fun k_ hk_ hs_ => (hk_.2) hs_)) (fun k_ hk_ => ⟨hk_.1.1.1, hk_.1.1.2.1, hk_.1.1.2.2.1, hk_.1.1.2.2.2.1, hk_.1.1.2.2.2.2, fun e_ => Or.elim (ho0.1 k_ e_.symm) (fun hs_ => hk_.2.1 hs_) (fun hn_ => Nat.not_le.2 hk_.2.2 hn_)⟩))
     replace HO184 := zK (Kd.R_mono (ok' := fun k_ => some k_ ≠ (.slice Ao25 t175.length co25 : Value).ownBlock ∧ some k_ ≠ (.slice Ao30 t186.length co30 : Value).ownBlock ∧ some k_ ≠ (.slice Ao39 t195.length co39 : Value).ownBlock ∧ some k_ ≠ (.slice Ao40 t202.length co40 : Value).ownBlock ∧ some k_ ≠ (.slice Ao45 t206.length co45 : Value).ownBlock ∧ some k_ ≠ (v216 : Value).ownBlock) (Kd.R_keptB (HO184.out) hkp (fun k_ hk_ hs_ => (hk_.2) hs_)) (fun k_ hk_ => ⟨hk_.1.1.1, hk_.1.1.2.1, hk_.1.1.2.2.1, hk_.1.1.2.2.2.1, hk_.1.1.2.2.2.2, fun e_ => Or.elim (ho0.1 k_ e_.symm) (fun hs_ => hk_.2.1 hs_) (fun hn_ => Nat.not_le.2 hk_.2.2 hn_)⟩))
     replace HO188 := zK (Kd.R_mono (ok' := fun k_ => some k_ ≠ (.slice Ao25 t175.length co25 : Value).ownBlock ∧ some k_ ≠ (.slice Ao26 t182.length co26 : Value).ownBlock ∧ some k_ ≠ (.slice Ao39 t195.length co39 : Value).ownBlock ∧ some k_ ≠ (.slice Ao40 t202.length co40 : Value).ownBlock ∧ some k_ ≠ (.slice Ao45 t206.length co45 : Value).ownBlock ∧ some k_ ≠ (v216 : Value).ownBlock) (Kd.R_keptB (HO188.out) hkp (fun k_ hk_ hs_ => (hk_.2) hs_)) (fun k_ hk_ => ⟨hk_.1.1.1, hk_.1.1.2.1, hk_.1.1.2.2.1, hk_.1.1.2.2.2.1, hk_.1.1.2.2.2.2, fun e_ => Or.elim (ho0.1 k_ e_.symm) (fun hs_ => hk_.2.1 hs_) (fun hn_ => Nat.not_le.2 hk_.2.2 hn_)⟩))
     replace HO197 := zK (Kd.R_mono (ok' := fun k_ => some k_ ≠ (.slice Ao25 t175.length co25 : Value).ownBlock ∧ some k_ ≠ (.slice Ao26 t182.length co26 : Value).ownBlock ∧ some k_ ≠ (.slice Ao30 t186.length co30 : Value).ownBlock ∧ some k_ ≠ (.slice Ao40 t202.length co40 : Value).ownBlock ∧ some k_ ≠ (.slice Ao45 t206.length co45 : Value).ownBlock ∧ some k_ ≠ (v216 : Value).ownBlock) (Kd.R_keptB (HO197.out) hkp (fun k_ hk_ hs_ => (hk_.2) hs_)) (fun k_ hk_ => ⟨hk_.1.1.1, hk_.1.1.2.1, hk_.1.1.2.2.1, hk_.1.1.2.2.2.1, hk_.1.1.2.2.2.2, fun e_ => Or.elim (ho0.1 k_ e_.symm) (fun hs_ => hk_.2.1 hs_) (fun hn_ => Nat.not_le.2 hk_.2.2 hn_)⟩))
     replace HO204 := zK (Kd.R_mono (ok' := fun k_ => some k_ ≠ (.slice Ao25 t175.length co25 : Value).ownBlock ∧ some k_ ≠ (.slice Ao26 t182.length co26 : Value).ownBlock ∧ some k_ ≠ (.slice Ao30 t186.length co30 : Value).ownBlock ∧ some k_ ≠ (.slice Ao39 t195.length co39 : Value).ownBlock ∧ some k_ ≠ (.slice Ao45 t206.length co45 : Value).ownBlock ∧ some k_ ≠ (v216 : Value).ownBlock) (Kd.R_keptB (HO204.out) hkp (fun k_ hk_ hs_ => (hk_.2) hs_)) (fun k_ hk_ => ⟨hk_.1.1.1, hk_.1.1.2.1, hk_.1.1.2.2.1, hk_.1.1.2.2.2.1, hk_.1.1.2.2.2.2, fun e_ => Or.elim (ho0.1 k_ e_.symm) (fun hs_ => hk_.2.1 hs_) (fun hn_ => Nat.not_le.2 hk_.2.2 hn_)⟩))
     replace HO208 := zK (Kd.R_mono (ok' := fun k_ => some k_ ≠ (.slice Ao25 t175.length co25 : Value).ownBlock ∧ some k_ ≠ (.slice Ao26 t182.length co26 : Value).ownBlock ∧ some k_ ≠ (.slice Ao30 t186.length co30 : Value).ownBlock ∧ some k_ ≠ (.slice Ao39 t195.length co39 : Value).ownBlock ∧ some k_ ≠ (.slice Ao40 t202.length co40 : Value).ownBlock ∧ some k_ ≠ (v216 : Value).ownBlock) (Kd.R_keptB (HO208.out) hkp (fun k_ hk_ hs_ => (hk_.2) hs_)) (fun k_ hk_ => ⟨hk_.1.1.1, hk_.1.1.2.1, hk_.1.1.2.2.1, hk_.1.1.2.2.2.1, hk_.1.1.2.2.2.2, fun e_ => Or.elim (ho0.1 k_ e_.symm) (fun hs_ => hk_.2.1 hs_) (fun hn_ => Nat.not_le.2 hk_.2.2 hn_)⟩))
     replace HB := zK (hb)
     clear HO213
     (try clear hb)
     (try clear hkp)
     (try clear ho0)
     obtain ⟨Ao52, co52, eo52⟩ := Kd.R_slice HO217.out
     (first | subst eo52 | (injection eo52 with f1_ f2_ f3_; have f4_ := f1_.symm; have f5_ := f3_.symm; clear f1_ f2_ f3_; subst f4_; subst f5_))
     refine hK.out _ _ ⟨(blk_cell BK190.out 0).trans rfl, (blk_cell BK190.out 1).trans rfl, (blk_cell BK210.out 0).trans rfl, (blk_cell BK210.out 1).trans rfl⟩ (fun hHeld => ?_)
     clear hK K
     refine norm_ (a' := ?_) ?_ ?_
     rotate_left
     ·show Act.put _ (some 33) _ = _
      simp only [Act.put, List.setIfInBounds_toArray, List.set_cons_zero, List.set_cons_succ, i64_w, i32_w]
      rfl
     refine one_ (i := 7) (N := some 34) #[true, true, true, true, true, true, true, true, false, false, false, false, false, false, false, false, false, false, false, false, false, false, false, false, false, false, false, false] rfl rfl (one_of HT_.out (by kernel_rfl)) (by decide) (fun K hK => ?_)
     refine goes_ Tryd.func24 (by kernel_rfl) rfl #[.agg #[.int .i64 t185, .slice Ao30 t186.length co30], .agg #[.int .i64 t214, .slice Ao52 t215.length co52]] (by rfl) rfl rfl (by (try simp only [List.map_toArray, List.map_cons, List.map_nil]); first | done | rfl | (simp only [List.length_drop, List.length_take]; rfl)) ?_
     with_reducible refine (sequiturbase_Lin.calls k t185 _ _ t186 t214 _ _ t215 true _ ?side1 ?side2 ?side3 ?side4 A9.out).mono ?_
     (case side1 => repeat (first | exact (Kd.R_reads' HO188.out).2.2 | (with_reducible refine cA ?_ _) | (with_reducible refine cN ?_ _) | (with_reducible refine cD ?_)))
     (case side2 => exact (Kd.R_reads' HO188.out).2.1)
     (case side3 => repeat (first | exact (Kd.R_reads' HO217.out).2.2 | (with_reducible refine cA ?_ _) | (with_reducible refine cN ?_ _) | (with_reducible refine cD ?_)))
     (case side4 => exact (Kd.R_reads' HO217.out).2.1)
     rintro e w53 ⟨rfl, hb⟩
     refine ⟨_, rfl, ?_⟩
     replace HO177 := zK (Kd.R_below (zr HO177) hb)
     replace HO184 := zK (Kd.R_below (zr HO184) hb)
     replace HO188 := zK (Kd.R_below (zr HO188) hb)
     replace HO197 := zK (Kd.R_below (zr HO197) hb)
     replace HO204 := zK (Kd.R_below (zr HO204) hb)
     replace HO208 := zK (Kd.R_below (zr HO208) hb)
     replace HO217 := zK (Kd.R_below (zr HO217) hb)
     replace BK190 := zK (blk_below (g := gb190) (o := .cells #[.int .i64 t185, .slice Ao30 t186.length co30] 28 (0, 0)) (zb BK190) hb)
     replace BK210 := zK (blk_below (g := gb210) (o := .cells #[.int .i64 t205, .slice Ao45 t206.length co45] 28 (0, 0)) (zb BK210) hb)
     replace HB := zK (below_step (zo HB) hb)
     (try clear hb)
     (try clear hb2)
     (try clear hk)
     (try clear hi)
     refine hK.out _ _ ⟨(blk_cell BK190.out 0).trans rfl, (blk_cell BK190.out 1).trans rfl, (blk_cell BK210.out 0).trans rfl, (blk_cell BK210.out 1).trans rfl⟩ (fun hHeld => ?_)
     clear hK K
     refine norm_ (a' := ?_) ?_ ?_
     rotate_left
     ·show Act.put _ (some 34) _ = _
      simp only [Act.put, List.setIfInBounds_toArray, List.set_cons_zero, List.set_cons_succ, i64_w, i32_w]
      rfl
     refine pure_ (i := 8) (N := some 35) (v := ?_) (a' := ?_) #[true, true, true, true, true, true, true, true, true, false, false, false, false, false, false, false, false, false, false, false, false, false, false, false, false, false, false, false] rfl rfl (any_of HT_.out (by kernel_rfl)) (fun _ _ _ h => h) (Or.inl ⟨by rfl, ?_⟩) ?_ ?_
     rotate_left
     ·intro w'
      go_simp
      with_reducible rfl
     rotate_left
     ·simp only [Act.put, List.setIfInBounds_toArray, List.set_cons_zero, List.set_cons_succ, i64_w, i32_w]
      rfl
     refine pure_ (i := 9) (N := some 36) (v := ?_) (a' := ?_) #[true, true, true, true, true, true, true, true, true, true, false, false, false, false, false, false, false, false, false, false, false, false, false, false, false, false, false, false] rfl rfl (any_of HT_.out (by kernel_rfl)) (fun _ _ _ h => h) (Or.inl ⟨by rfl, ?_⟩) ?_ ?_
     rotate_left
     ·intro w'
      go_simp
      with_reducible rfl
     rotate_left
     ·simp only [Act.put, List.setIfInBounds_toArray, List.set_cons_zero, List.set_cons_succ, i64_w, i32_w]
      rfl
     refine pure_ (i := 10) (N := some 37) (v := ?_) (a' := ?_) #[true, true, true, true, true, true, true, true, true, true, true, false, false, false, false, false, false, false, false, false, false, false, false, false, false, false, false, false] rfl rfl (any_of HT_.out (by kernel_rfl)) (fun _ _ _ h => h) (Or.inl ⟨by rfl, ?_⟩) ?_ ?_
     rotate_left
     ·intro w'
      go_simp
      with_reducible rfl
     rotate_left
     ·simp only [Act.put, List.setIfInBounds_toArray, List.set_cons_zero, List.set_cons_succ, i64_w, i32_w]
      rfl
     refine pure_ (i := 11) (N := some 38) (v := ?_) (a' := ?_) #[true, true, true, true, true, true, true, true, true, true, true, true, false, false, false, false, false, false, false, false, false, false, false, false, false, false, false, false] rfl rfl (any_of HT_.out (by kernel_rfl)) (fun _ _ _ h => h) (Or.inl ⟨by rfl, ?_⟩) ?_ ?_
     rotate_left
     ·intro w'
      go_simp
      with_reducible rfl
     rotate_left
     ·simp only [Act.put, List.setIfInBounds_toArray, List.set_cons_zero, List.set_cons_succ, i64_w, i32_w]
      rfl
     refine pure_ (i := 12) (N := some 39) (v := ?_) (a' := ?_) #[true, true, true, true, true, true, true, true, true, true, true, true, true, false, false, false, false, false, false, false, false, false, false, false, false, false, false, false] rfl rfl (any_of HT_.out (by kernel_rfl)) (fun _ _ _ h => h) (Or.inl ⟨by rfl, ?_⟩) ?_ ?_
     rotate_left
     ·intro w'
      go_simp
      with_reducible rfl
     rotate_left
     ·simp only [Act.put, List.setIfInBounds_toArray, List.set_cons_zero, List.set_cons_succ, i64_w, i32_w]
      rfl
     refine pure_ (i := 13) (N := some 40) (v := ?_) (a' := ?_) #[true, true, true, true, true, true, true, true, true, true, true, true, true, true, false, false, false, false, false, false, false, false, false, false, false, false, false, false] rfl rfl (any_of HT_.out (by kernel_rfl)) (fun _ _ _ h => h) (Or.inl ⟨by rfl, ?_⟩) ?_ ?_
     rotate_left
     ·intro w'
      go_simp
      with_reducible rfl
     rotate_left
     ·simp only [Act.put, List.setIfInBounds_toArray, List.set_cons_zero, List.set_cons_succ, i64_w, i32_w]
      rfl
     refine pure_ (i := 15) (N := some 42) (v := ?_) (a' := ?_) #[true, true, true, true, true, true, true, true, true, true, true, true, true, true, false, true, false, false, false, false, false, false, false, false, false, false, false, false] rfl rfl (any_of HT_.out (by kernel_rfl)) (fun _ _ _ h => h) (Or.inl ⟨by rfl, ?_⟩) ?_ ?_
     rotate_left
     ·intro w'
      go_simp
      with_reducible rfl
     rotate_left
     ·simp only [Act.put, List.setIfInBounds_toArray, List.set_cons_zero, List.set_cons_succ, i64_w, i32_w]
      rfl
     refine take_ (i := 14) (N := some 41) (v := ?_) (a' := ?_) #[true, true, true, true, true, true, true, true, true, true, true, true, true, true, true, true, false, false, false, false, false, false, false, false, false, false, false, false] rfl rfl (take_ofW HT_.out HW_.out (by kernel_rfl)) (fun _ _ _ h => h) (Or.inl ⟨by rfl, ?_⟩) hHeld ?_ ?_
     rotate_left
     ·rintro w' ⟨s0, s1, s2, s3⟩
      go_simp
      with_reducible rfl
     rotate_left
     ·simp only [Act.put, List.setIfInBounds_toArray, List.set_cons_zero, List.set_cons_succ, i64_w, i32_w]
      rfl
     refine one_ (i := 16) (N := some 43) #[true, true, true, true, true, true, true, true, true, true, true, true, true, true, true, true, true, false, false, false, false, false, false, false, false, false, false, false] rfl rfl (one_of HT_.out (by kernel_rfl)) (by decide) (fun K hK => ?_)
     refine Kd.R_lit_step k51 _ 51 ?hg (N := 43) ?hd (xs := ([(⟨0, 1⟩ : S51)] : List (S51))) (inner := [.int .i64 0, .int .i64 1]) (ok := fun _ => True) (okp := fun _ => True) ?hr ?hp (fun _ hk => hk) trivial (Below.refl _ _) (Nat.le_refl _) (by simp) ?_; (case hd => rfl); (case hg => rfl); (case hr => first | (go_simp; done) | (go_simp; rfl)); (case hp => exact (Reps.c2 (show Kd.M k51 _ _ _ (⟨0, 1⟩ : S51) [.int .i64 0, .int .i64 1] from (k51_mkM _ _ _ (⟨0, 1⟩ : S51) )) (Reps.none _ _)))
     intro v220 w54 ho55 hb hg_ hnew_
     clear hg_ hnew_
     (first | rw [← Ny219.out] at ho55 | (simp only [Int.reduceToNat] at ho55; rw [← Ny219.out] at ho55))
     have HO221 := zK (Kd.R_lower (Kd.R_new' (Kd.R_new' (Kd.R_new' (Kd.R_new' (Kd.R_new' (Kd.R_new' (Kd.R_new' ho55 (Kd.R_lt (zr HO177))) (Kd.R_lt (zr HO184))) (Kd.R_lt (zr HO188))) (Kd.R_lt (zr HO197))) (Kd.R_lt (zr HO204))) (Kd.R_lt (zr HO208))) (Kd.R_lt (zr HO217))) (below_size (zo HB)))
     replace HO177 := zK (Kd.R_elder' (zr HO177) (Kd.R_base ho55) hb)
     replace HO184 := zK (Kd.R_elder' (zr HO184) (Kd.R_base ho55) hb)
     replace HO188 := zK (Kd.R_elder' (zr HO188) (Kd.R_base ho55) hb)
     replace HO197 := zK (Kd.R_elder' (zr HO197) (Kd.R_base ho55) hb)
     replace HO204 := zK (Kd.R_elder' (zr HO204) (Kd.R_base ho55) hb)
     replace HO208 := zK (Kd.R_elder' (zr HO208) (Kd.R_base ho55) hb)
     replace HO217 := zK (Kd.R_elder' (zr HO217) (Kd.R_base ho55) hb)
     replace BK190 := zK (blk_below (g := gb190) (o := .cells #[.int .i64 t185, .slice Ao30 t186.length co30] 28 (0, 0)) (zb BK190) hb)
     replace BK210 := zK (blk_below (g := gb210) (o := .cells #[.int .i64 t205, .slice Ao45 t206.length co45] 28 (0, 0)) (zb BK210) hb)
     replace HB := zK (below_step (zo HB) hb)
     clear hb ho55
     obtain ⟨Ao56, co56, eo56⟩ := Kd.R_slice HO221.out
     (first | subst eo56 | (injection eo56 with f1_ f2_ f3_; have f4_ := f1_.symm; have f5_ := f3_.symm; clear f1_ f2_ f3_; subst f4_; subst f5_))
     refine hK.out _ _ ⟨(blk_cell BK190.out 0).trans rfl, (blk_cell BK190.out 1).trans rfl, (blk_cell BK210.out 0).trans rfl, (blk_cell BK210.out 1).trans rfl⟩ (fun hHeld => ?_)
     clear hK K
     refine norm_ (a' := ?_) ?_ ?_
     rotate_left
     ·show Act.put _ (some 43) _ = _
      simp only [Act.put, List.setIfInBounds_toArray, List.set_cons_zero, List.set_cons_succ, i64_w, i32_w]
      rfl
     refine one_ (i := 17) (N := some 44) #[true, true, true, true, true, true, true, true, true, true, true, true, true, true, true, true, true, true, false, false, false, false, false, false, false, false, false, false] rfl rfl (one_of HT_.out (by kernel_rfl)) (by decide) (fun K hK => ?_)
     refine goes_ Tryd.func29 (by kernel_rfl) rfl #[.int .i64 (-2), .slice Ao56 y219.length co56] (by rfl) rfl rfl (by (try simp only [List.map_toArray, List.map_cons, List.map_nil]); first | done | rfl | (simp only [List.length_drop, List.length_take]; rfl)) ?_
     with_reducible refine (sequiturlaw27_form.calls (-2) (fun k_ => some k_ = (.slice Ao56 y219.length co56 : Value).ownBlock) (.slice Ao56 y219.length co56) y219 t222 t223 w _ ?side1 ?side2 A12.out).mono ?_
     (case side1 => repeat (first | (with_reducible first | exact HB.out | apply yA | apply yN | apply yD | refine yS ?_ GE190.out | refine yS ?_ GE210.out) | exact HB.out))
     (case side2 => exact Kd.R_tight rfl HO221.out)
     rintro e w57 ⟨v224, rfl, ho0, hb, hkp⟩
     refine ⟨_, rfl, ?_⟩
     replace BK190 := zK (blk_kept (zb BK190) hkp (fun hs_ => (fun e_ => (Kd.R_ne HO221.out BK190.out (by decide)) e_) hs_))
     replace BK210 := zK (blk_kept (zb BK210) hkp (fun hs_ => (fun e_ => (Kd.R_ne HO221.out BK210.out (by decide)) e_) hs_))
     have HO225 := zK (Kd.R_mono (ok' := fun k_ => some k_ ≠ (.slice Ao25 t175.length co25 : Value).ownBlock ∧ some k_ ≠ (.slice Ao26 t182.length co26 : Value).ownBlock ∧ some k_ ≠ (.slice Ao30 t186.length co30 : Value).ownBlock ∧ some k_ ≠ (.slice Ao39 t195.length co39 : Value).ownBlock ∧ some k_ ≠ (.slice Ao40 t202.length co40 : Value).ownBlock ∧ some k_ ≠ (.slice Ao45 t206.length co45 : Value).ownBlock ∧ some k_ ≠ (.slice Ao52 t215.length co52 : Value).ownBlock) ho0 (fun k_ hk_ => ⟨Or.elim hk_ (fun hs_ => fun e_ => (((HO177.out).1 k_ e_.symm).2) hs_) (fun hn_ => (Kd.fresh' (Kd.R_lt (zr HO177)) k_ hn_)), Or.elim hk_ (fun hs_ => fun e_ => (((HO184.out).1 k_ e_.symm).2) hs_) (fun hn_ => (Kd.fresh' (Kd.R_lt (zr HO184)) k_ hn_)), Or.elim hk_ (fun hs_ => fun e_ => (((HO188.out).1 k_ e_.symm).2) hs_) (fun hn_ => (Kd.fresh' (Kd.R_lt (zr HO188)) k_ hn_)), Or.elim hk_ (fun hs_ => fun e_ => (((HO197.out).1 k_ e_.symm).2) hs_) (fun hn_ => (Kd.fresh' (Kd.R_lt (zr HO197)) k_ hn_)), Or.elim hk_ (fun hs_ => fun e_ => (((HO204.out).1 k_ e_.symm).2) hs_) (fun hn_ => (Kd.fresh' (Kd.R_lt (zr HO204)) k_ hn_)), Or.elim hk_ (fun hs_ => fun e_ => (((HO208.out).1 k_ e_.symm).2) hs_) (fun hn_ => (Kd.fresh' (Kd.R_lt (zr HO208)) k_ hn_)), Or.elim hk_ (fun hs_ => fun e_ => (((HO217.out).1 k_ e_.symm).2) hs_) (fun hn_ => (Kd.fresh' (Kd.R_lt (zr HO217)) k_ hn_))⟩))
     replace HO177 := zK (Kd.R_mono (ok' := fun k_ => some k_ ≠ (.slice Ao26 t182.length co26 : Value).ownBlock ∧ some k_ ≠ (.slice Ao30 t186.length co30 : Value).ownBlock ∧ some k_ ≠ (.slice Ao39 t195.length co39 : Value).ownBlock ∧ some k_ ≠ (.slice Ao40 t202.length co40 : Value).ownBlock ∧ some k_ ≠ (.slice Ao45 t206.length co45 : Value).ownBlock ∧ some k_ ≠ (.slice Ao52 t215.length co52 : Value).ownBlock ∧ some k_ ≠ (v224 : Value).ownBlock) (Kd.R_keptB (HO177.out) hkp (fun k_ hk_ hs_ => (hk_.2) hs_)) (fun k_ hk_ => ⟨hk_.1.1.1, hk_.1.1.2.1, hk_.1.1.2.2.1, hk_.1.1.2.2.2.1, hk_.1.1.2.2.2.2.1, hk_.1.1.2.2.2.2.2, fun e_ => Or.elim (ho0.1 k_ e_.symm) (fun hs_ => hk_.2.1 hs_) (fun hn_ => Nat.not_le.2 hk_.2.2 hn_)⟩))
     replace HO184 := zK (Kd.R_mono (ok' := fun k_ => some k_ ≠ (.slice Ao25 t175.length co25 : Value).ownBlock ∧ some k_ ≠ (.slice Ao30 t186.length co30 : Value).ownBlock ∧ some k_ ≠ (.slice Ao39 t195.length co39 : Value).ownBlock ∧ some k_ ≠ (.slice Ao40 t202.length co40 : Value).ownBlock ∧ some k_ ≠ (.slice Ao45 t206.length co45 : Value).ownBlock ∧ some k_ ≠ (.slice Ao52 t215.length co52 : Value).ownBlock ∧ some k_ ≠ (v224 : Value).ownBlock) (Kd.R_keptB (HO184.out) hkp (fun k_ hk_ hs_ => (hk_.2) hs_)) (fun k_ hk_ => ⟨hk_.1.1.1, hk_.1.1.2.1, hk_.1.1.2.2.1, hk_.1.1.2.2.2.1, hk_.1.1.2.2.2.2.1, hk_.1.1.2.2.2.2.2, fun e_ => Or.elim (ho0.1 k_ e_.symm) (fun hs_ => hk_.2.1 hs_) (fun hn_ => Nat.not_le.2 hk_.2.2 hn_)⟩))
     replace HO188 := zK (Kd.R_mono (ok' := fun k_ => some k_ ≠ (.slice Ao25 t175.length co25 : Value).ownBlock ∧ some k_ ≠ (.slice Ao26 t182.length co26 : Value).ownBlock ∧ some k_ ≠ (.slice Ao39 t195.length co39 : Value).ownBlock ∧ some k_ ≠ (.slice Ao40 t202.length co40 : Value).ownBlock ∧ some k_ ≠ (.slice Ao45 t206.length co45 : Value).ownBlock ∧ some k_ ≠ (.slice Ao52 t215.length co52 : Value).ownBlock ∧ some k_ ≠ (v224 : Value).ownBlock) (Kd.R_keptB (HO188.out) hkp (fun k_ hk_ hs_ => (hk_.2) hs_)) (fun k_ hk_ => ⟨hk_.1.1.1, hk_.1.1.2.1, hk_.1.1.2.2.1, hk_.1.1.2.2.2.1, hk_.1.1.2.2.2.2.1, hk_.1.1.2.2.2.2.2, fun e_ => Or.elim (ho0.1 k_ e_.symm) (fun hs_ => hk_.2.1 hs_) (fun hn_ => Nat.not_le.2 hk_.2.2 hn_)⟩))
     replace HO197 := zK (Kd.R_mono (ok' := fun k_ => some k_ ≠ (.slice Ao25 t175.length co25 : Value).ownBlock ∧ some k_ ≠ (.slice Ao26 t182.length co26 : Value).ownBlock ∧ some k_ ≠ (.slice Ao30 t186.length co30 : Value).ownBlock ∧ some k_ ≠ (.slice Ao40 t202.length co40 : Value).ownBlock ∧ some k_ ≠ (.slice Ao45 t206.length co45 : Value).ownBlock ∧ some k_ ≠ (.slice Ao52 t215.length co52 : Value).ownBlock ∧ some k_ ≠ (v224 : Value).ownBlock) (Kd.R_keptB (HO197.out) hkp (fun k_ hk_ hs_ => (hk_.2) hs_)) (fun k_ hk_ => ⟨hk_.1.1.1, hk_.1.1.2.1, hk_.1.1.2.2.1, hk_.1.1.2.2.2.1, hk_.1.1.2.2.2.2.1, hk_.1.1.2.2.2.2.2, fun e_ => Or.elim (ho0.1 k_ e_.symm) (fun hs_ => hk_.2.1 hs_) (fun hn_ => Nat.not_le.2 hk_.2.2 hn_)⟩))
     replace HO204 := zK (Kd.R_mono (ok' := fun k_ => some k_ ≠ (.slice Ao25 t175.length co25 : Value).ownBlock ∧ some k_ ≠ (.slice Ao26 t182.length co26 : Value).ownBlock ∧ some k_ ≠ (.slice Ao30 t186.length co30 : Value).ownBlock ∧ some k_ ≠ (.slice Ao39 t195.length co39 : Value).ownBlock ∧ some k_ ≠ (.slice Ao45 t206.length co45 : Value).ownBlock ∧ some k_ ≠ (.slice Ao52 t215.length co52 : Value).ownBlock ∧ some k_ ≠ (v224 : Value).ownBlock) (Kd.R_keptB (HO204.out) hkp (fun k_ hk_ hs_ => (hk_.2) hs_)) (fun k_ hk_ => ⟨hk_.1.1.1, hk_.1.1.2.1, hk_.1.1.2.2.1, hk_.1.1.2.2.2.1, hk_.1.1.2.2.2.2.1, hk_.1.1.2.2.2.2.2, fun e_ => Or.elim (ho0.1 k_ e_.symm) (fun hs_ => hk_.2.1 hs_) (fun hn_ => Nat.not_le.2 hk_.2.2 hn_)⟩))
     replace HO208 := zK (Kd.R_mono (ok' := fun k_ => some k_ ≠ (.slice Ao25 t175.length co25 : Value).ownBlock ∧ some k_ ≠ (.slice Ao26 t182.length co26 : Value).ownBlock ∧ some k_ ≠ (.slice Ao30 t186.length co30 : Value).ownBlock ∧ some k_ ≠ (.slice Ao39 t195.length co39 : Value).ownBlock ∧ some k_ ≠ (.slice Ao40 t202.length co40 : Value).ownBlock ∧ some k_ ≠ (.slice Ao52 t215.length co52 : Value).ownBlock ∧ some k_ ≠ (v224 : Value).ownBlock) (Kd.R_keptB (HO208.out) hkp (fun k_ hk_ hs_ => (hk_.2) hs_)) (fun k_ hk_ => ⟨hk_.1.1.1, hk_.1.1.2.1, hk_.1.1.2.2.1, hk_.1.1.2.2.2.1, hk_.1.1.2.2.2.2.1, hk_.1.1.2.2.2.2.2, fun e_ => Or.elim (ho0.1 k_ e_.symm) (fun hs_ => hk_.2.1 hs_) (fun hn_ => Nat.not_le.2 hk_.2.2 hn_)⟩))
     replace HO217 := zK (Kd.R_mono (ok' := fun k_ => some k_ ≠ (.slice Ao25 t175.length co25 : Value).ownBlock ∧ some k_ ≠ (.slice Ao26 t182.length co26 : Value).ownBlock ∧ some k_ ≠ (.slice Ao30 t186.length co30 : Value).ownBlock ∧ some k_ ≠ (.slice Ao39 t195.length co39 : Value).ownBlock ∧ some k_ ≠ (.slice Ao40 t202.length co40 : Value).ownBlock ∧ some k_ ≠ (.slice Ao45 t206.length co45 : Value).ownBlock ∧ some k_ ≠ (v224 : Value).ownBlock) (Kd.R_keptB (HO217.out) hkp (fun k_ hk_ hs_ => (hk_.2) hs_)) (fun k_ hk_ => ⟨hk_.1.1.1, hk_.1.1.2.1, hk_.1.1.2.2.1, hk_.1.1.2.2.2.1, hk_.1.1.2.2.2.2.1, hk_.1.1.2.2.2.2.2, fun e_ => Or.elim (ho0.1 k_ e_.symm) (fun hs_ => hk_.2.1 hs_) (fun hn_ => Nat.not_le.2 hk_.2.2 hn_)⟩))
     replace HB := zK (hb)
     clear HO221
     (try clear hb)
     (try clear hkp)
     (try clear ho0)
     obtain ⟨Ao58, co58, eo58⟩ := Kd.R_slice HO225.out
     (first | subst eo58 | (injection eo58 with f1_ f2_ f3_; have f4_ := f1_.symm; have f5_ := f3_.symm; clear f1_ f2_ f3_; subst f4_; subst f5_))
     refine hK.out _ _ ⟨(blk_cell BK190.out 0).trans rfl, (blk_cell BK190.out 1).trans rfl, (blk_cell BK210.out 0).trans rfl, (blk_cell BK210.out 1).trans rfl⟩ (fun hHeld => ?_)
     clear hK K
     refine norm_ (a' := ?_) ?_ ?_
     rotate_left
     ·show Act.put _ (some 44) _ = _
      simp only [Act.put, List.setIfInBounds_toArray, List.set_cons_zero, List.set_cons_succ, i64_w, i32_w]
      rfl
     refine one_ (i := 18) (N := some 45) #[true, true, true, true, true, true, true, true, true, true, true, true, true, true, true, true, true, true, true, false, false, false, false, false, false, false, false, false] rfl rfl (one_of HT_.out (by kernel_rfl)) (by decide) (fun K hK => ?_)
     refine goes_ Tryd.func24 (by kernel_rfl) rfl #[.agg #[.int .i64 t205, .slice Ao45 t206.length co45], .agg #[.int .i64 t222, .slice Ao58 t223.length co58]] (by rfl) rfl rfl (by (try simp only [List.map_toArray, List.map_cons, List.map_nil]); first | done | rfl | (simp only [List.length_drop, List.length_take]; rfl)) ?_
     with_reducible refine (sequiturbase_Lin.calls k t205 _ _ t206 t222 _ _ t223 true _ ?side1 ?side2 ?side3 ?side4 A13.out).mono ?_
     (case side1 => repeat (first | exact (Kd.R_reads' HO208.out).2.2 | (with_reducible refine cA ?_ _) | (with_reducible refine cN ?_ _) | (with_reducible refine cD ?_)))
     (case side2 => exact (Kd.R_reads' HO208.out).2.1)
     (case side3 => repeat (first | exact (Kd.R_reads' HO225.out).2.2 | (with_reducible refine cA ?_ _) | (with_reducible refine cN ?_ _) | (with_reducible refine cD ?_)))
     (case side4 => exact (Kd.R_reads' HO225.out).2.1)
     rintro e w59 ⟨rfl, hb⟩
     refine ⟨_, rfl, ?_⟩
     replace HO177 := zK (Kd.R_below (zr HO177) hb)
     replace HO184 := zK (Kd.R_below (zr HO184) hb)
     replace HO188 := zK (Kd.R_below (zr HO188) hb)
     replace HO197 := zK (Kd.R_below (zr HO197) hb)
     replace HO204 := zK (Kd.R_below (zr HO204) hb)
     replace HO208 := zK (Kd.R_below (zr HO208) hb)
     replace HO217 := zK (Kd.R_below (zr HO217) hb)
     replace HO225 := zK (Kd.R_below (zr HO225) hb)
     replace BK190 := zK (blk_below (g := gb190) (o := .cells #[.int .i64 t185, .slice Ao30 t186.length co30] 28 (0, 0)) (zb BK190) hb)
     replace BK210 := zK (blk_below (g := gb210) (o := .cells #[.int .i64 t205, .slice Ao45 t206.length co45] 28 (0, 0)) (zb BK210) hb)
     replace HB := zK (below_step (zo HB) hb)
     (try clear hb)
     (try clear hb2)
     (try clear hk)
     (try clear hi)
     refine hK.out _ _ ⟨(blk_cell BK190.out 0).trans rfl, (blk_cell BK190.out 1).trans rfl, (blk_cell BK210.out 0).trans rfl, (blk_cell BK210.out 1).trans rfl⟩ (fun hHeld => ?_)
     clear hK K
     refine norm_ (a' := ?_) ?_ ?_
     rotate_left
     ·show Act.put _ (some 45) _ = _
      simp only [Act.put, List.setIfInBounds_toArray, List.set_cons_zero, List.set_cons_succ, i64_w, i32_w]
      rfl
     refine pure_ (i := 19) (N := some 46) (v := ?_) (a' := ?_) #[true, true, true, true, true, true, true, true, true, true, true, true, true, true, true, true, true, true, true, true, false, false, false, false, false, false, false, false] rfl rfl (any_of HT_.out (by kernel_rfl)) (fun _ _ _ h => h) (Or.inl ⟨by rfl, ?_⟩) ?_ ?_
     rotate_left
     ·intro w'
      go_simp
      with_reducible rfl
     rotate_left
     ·simp only [Act.put, List.setIfInBounds_toArray, List.set_cons_zero, List.set_cons_succ, i64_w, i32_w]
      rfl
     refine pure_ (i := 20) (N := some 47) (v := ?_) (a' := ?_) #[true, true, true, true, true, true, true, true, true, true, true, true, true, true, true, true, true, true, true, true, true, false, false, false, false, false, false, false] rfl rfl (any_of HT_.out (by kernel_rfl)) (fun _ _ _ h => h) (Or.inl ⟨by rfl, ?_⟩) ?_ ?_
     rotate_left
     ·intro w'
      go_simp
      with_reducible rfl
     rotate_left
     ·simp only [Act.put, List.setIfInBounds_toArray, List.set_cons_zero, List.set_cons_succ, i64_w, i32_w]
      rfl
     refine pure_ (i := 21) (N := some 48) (v := ?_) (a' := ?_) #[true, true, true, true, true, true, true, true, true, true, true, true, true, true, true, true, true, true, true, true, true, true, false, false, false, false, false, false] rfl rfl (any_of HT_.out (by kernel_rfl)) (fun _ _ _ h => h) (Or.inl ⟨by rfl, ?_⟩) ?_ ?_
     rotate_left
     ·intro w'
      go_simp
      with_reducible rfl
     rotate_left
     ·simp only [Act.put, List.setIfInBounds_toArray, List.set_cons_zero, List.set_cons_succ, i64_w, i32_w]
      rfl
     refine one_ (i := 22) (N := some 49) #[true, true, true, true, true, true, true, true, true, true, true, true, true, true, true, true, true, true, true, true, true, true, true, false, false, false, false, false] rfl rfl (one_of HT_.out (by kernel_rfl)) (by decide) (fun K hK => ?_)
     refine Kd.R_lit_step k51 _ 51 ?hg (N := 49) ?hd (xs := ([(⟨3, (-1)⟩ : S51)] : List (S51))) (inner := [.int .i64 3, .int .i64 (-1)]) (ok := fun _ => True) (okp := fun _ => True) ?hr ?hp (fun _ hk => hk) trivial (Below.refl _ _) (Nat.le_refl _) (by simp) ?_; (case hd => rfl); (case hg => rfl); (case hr => first | (go_simp; done) | (go_simp; rfl)); (case hp => exact (Reps.c2 (show Kd.M k51 _ _ _ (⟨3, (-1)⟩ : S51) [.int .i64 3, .int .i64 (-1)] from (k51_mkM _ _ _ (⟨3, (-1)⟩ : S51) )) (Reps.none _ _)))
     intro v228 w60 ho61 hb hg_ hnew_
     clear hg_ hnew_
     (first | rw [← Ny227.out] at ho61 | (simp only [Int.reduceToNat] at ho61; rw [← Ny227.out] at ho61))
     have HO229 := zK (Kd.R_lower (Kd.R_new' (Kd.R_new' (Kd.R_new' (Kd.R_new' (Kd.R_new' (Kd.R_new' (Kd.R_new' (Kd.R_new' ho61 (Kd.R_lt (zr HO177))) (Kd.R_lt (zr HO184))) (Kd.R_lt (zr HO188))) (Kd.R_lt (zr HO197))) (Kd.R_lt (zr HO204))) (Kd.R_lt (zr HO208))) (Kd.R_lt (zr HO217))) (Kd.R_lt (zr HO225))) (below_size (zo HB)))
     replace HO177 := zK (Kd.R_elder' (zr HO177) (Kd.R_base ho61) hb)
     replace HO184 := zK (Kd.R_elder' (zr HO184) (Kd.R_base ho61) hb)
     replace HO188 := zK (Kd.R_elder' (zr HO188) (Kd.R_base ho61) hb)
     replace HO197 := zK (Kd.R_elder' (zr HO197) (Kd.R_base ho61) hb)
     replace HO204 := zK (Kd.R_elder' (zr HO204) (Kd.R_base ho61) hb)
     replace HO208 := zK (Kd.R_elder' (zr HO208) (Kd.R_base ho61) hb)
     replace HO217 := zK (Kd.R_elder' (zr HO217) (Kd.R_base ho61) hb)
     replace HO225 := zK (Kd.R_elder' (zr HO225) (Kd.R_base ho61) hb)
     replace BK190 := zK (blk_below (g := gb190) (o := .cells #[.int .i64 t185, .slice Ao30 t186.length co30] 28 (0, 0)) (zb BK190) hb)
     replace BK210 := zK (blk_below (g := gb210) (o := .cells #[.int .i64 t205, .slice Ao45 t206.length co45] 28 (0, 0)) (zb BK210) hb)
     replace HB := zK (below_step (zo HB) hb)
     clear hb ho61
     obtain ⟨Ao62, co62, eo62⟩ := Kd.R_slice HO229.out
     (first | subst eo62 | (injection eo62 with f1_ f2_ f3_; have f4_ := f1_.symm; have f5_ := f3_.symm; clear f1_ f2_ f3_; subst f4_; subst f5_))
     refine hK.out _ _ ⟨(blk_cell BK190.out 0).trans rfl, (blk_cell BK190.out 1).trans rfl, (blk_cell BK210.out 0).trans rfl, (blk_cell BK210.out 1).trans rfl⟩ (fun hHeld => ?_)
     clear hK K
     refine norm_ (a' := ?_) ?_ ?_
     rotate_left
     ·show Act.put _ (some 49) _ = _
      simp only [Act.put, List.setIfInBounds_toArray, List.set_cons_zero, List.set_cons_succ, i64_w, i32_w]
      rfl
     refine one_ (i := 23) (N := some 50) #[true, true, true, true, true, true, true, true, true, true, true, true, true, true, true, true, true, true, true, true, true, true, true, true, false, false, false, false] rfl rfl (one_of HT_.out (by kernel_rfl)) (by decide) (fun K hK => ?_)
     refine goes_ Tryd.func29 (by kernel_rfl) rfl #[.int .i64 4, .slice Ao62 y227.length co62] (by rfl) rfl rfl (by (try simp only [List.map_toArray, List.map_cons, List.map_nil]); first | done | rfl | (simp only [List.length_drop, List.length_take]; rfl)) ?_
     with_reducible refine (sequiturlaw27_form.calls 4 (fun k_ => some k_ = (.slice Ao62 y227.length co62 : Value).ownBlock) (.slice Ao62 y227.length co62) y227 t230 t231 w _ ?side1 ?side2 A15.out).mono ?_
     (case side1 => repeat (first | (with_reducible first | exact HB.out | apply yA | apply yN | apply yD | refine yS ?_ GE190.out | refine yS ?_ GE210.out) | exact HB.out))
     (case side2 => exact Kd.R_tight rfl HO229.out)
     rintro e w63 ⟨v232, rfl, ho0, hb, hkp⟩
     refine ⟨_, rfl, ?_⟩
     replace BK190 := zK (blk_kept (zb BK190) hkp (fun hs_ => (fun e_ => (Kd.R_ne HO229.out BK190.out (by decide)) e_) hs_))
     replace BK210 := zK (blk_kept (zb BK210) hkp (fun hs_ => (fun e_ => (Kd.R_ne HO229.out BK210.out (by decide)) e_) hs_))
     have HO233 := zK (Kd.R_mono (ok' := fun k_ => some k_ ≠ (.slice Ao25 t175.length co25 : Value).ownBlock ∧ some k_ ≠ (.slice Ao26 t182.length co26 : Value).ownBlock ∧ some k_ ≠ (.slice Ao30 t186.length co30 : Value).ownBlock ∧ some k_ ≠ (.slice Ao39 t195.length co39 : Value).ownBlock ∧ some k_ ≠ (.slice Ao40 t202.length co40 : Value).ownBlock ∧ some k_ ≠ (.slice Ao45 t206.length co45 : Value).ownBlock ∧ some k_ ≠ (.slice Ao52 t215.length co52 : Value).ownBlock ∧ some k_ ≠ (.slice Ao58 t223.length co58 : Value).ownBlock) ho0 (fun k_ hk_ => ⟨Or.elim hk_ (fun hs_ => fun e_ => (((HO177.out).1 k_ e_.symm).2) hs_) (fun hn_ => (Kd.fresh' (Kd.R_lt (zr HO177)) k_ hn_)), Or.elim hk_ (fun hs_ => fun e_ => (((HO184.out).1 k_ e_.symm).2) hs_) (fun hn_ => (Kd.fresh' (Kd.R_lt (zr HO184)) k_ hn_)), Or.elim hk_ (fun hs_ => fun e_ => (((HO188.out).1 k_ e_.symm).2) hs_) (fun hn_ => (Kd.fresh' (Kd.R_lt (zr HO188)) k_ hn_)), Or.elim hk_ (fun hs_ => fun e_ => (((HO197.out).1 k_ e_.symm).2) hs_) (fun hn_ => (Kd.fresh' (Kd.R_lt (zr HO197)) k_ hn_)), Or.elim hk_ (fun hs_ => fun e_ => (((HO204.out).1 k_ e_.symm).2) hs_) (fun hn_ => (Kd.fresh' (Kd.R_lt (zr HO204)) k_ hn_)), Or.elim hk_ (fun hs_ => fun e_ => (((HO208.out).1 k_ e_.symm).2) hs_) (fun hn_ => (Kd.fresh' (Kd.R_lt (zr HO208)) k_ hn_)), Or.elim hk_ (fun hs_ => fun e_ => (((HO217.out).1 k_ e_.symm).2) hs_) (fun hn_ => (Kd.fresh' (Kd.R_lt (zr HO217)) k_ hn_)), Or.elim hk_ (fun hs_ => fun e_ => (((HO225.out).1 k_ e_.symm).2) hs_) (fun hn_ => (Kd.fresh' (Kd.R_lt (zr HO225)) k_ hn_))⟩))
     replace HO177 := zK (Kd.R_mono (ok' := fun k_ => some k_ ≠ (.slice Ao26 t182.length co26 : Value).ownBlock ∧ some k_ ≠ (.slice Ao30 t186.length co30 : Value).ownBlock ∧ some k_ ≠ (.slice Ao39 t195.length co39 : Value).ownBlock ∧ some k_ ≠ (.slice Ao40 t202.length co40 : Value).ownBlock ∧ some k_ ≠ (.slice Ao45 t206.length co45 : Value).ownBlock ∧ some k_ ≠ (.slice Ao52 t215.length co52 : Value).ownBlock ∧ some k_ ≠ (.slice Ao58 t223.length co58 : Value).ownBlock ∧ some k_ ≠ (v232 : Value).ownBlock) (Kd.R_keptB (HO177.out) hkp (fun k_ hk_ hs_ => (hk_.2) hs_)) (fun k_ hk_ => ⟨hk_.1.1.1, hk_.1.1.2.1, hk_.1.1.2.2.1, hk_.1.1.2.2.2.1, hk_.1.1.2.2.2.2.1, hk_.1.1.2.2.2.2.2.1, hk_.1.1.2.2.2.2.2.2, fun e_ => Or.elim (ho0.1 k_ e_.symm) (fun hs_ => hk_.2.1 hs_) (fun hn_ => Nat.not_le.2 hk_.2.2 hn_)⟩))
     replace HO184 := zK (Kd.R_mono (ok' := fun k_ => some k_ ≠ (.slice Ao25 t175.length co25 : Value).ownBlock ∧ some k_ ≠ (.slice Ao30 t186.length co30 : Value).ownBlock ∧ some k_ ≠ (.slice Ao39 t195.length co39 : Value).ownBlock ∧ some k_ ≠ (.slice Ao40 t202.length co40 : Value).ownBlock ∧ some k_ ≠ (.slice Ao45 t206.length co45 : Value).ownBlock ∧ some k_ ≠ (.slice Ao52 t215.length co52 : Value).ownBlock ∧ some k_ ≠ (.slice Ao58 t223.length co58 : Value).ownBlock ∧ some k_ ≠ (v232 : Value).ownBlock) (Kd.R_keptB (HO184.out) hkp (fun k_ hk_ hs_ => (hk_.2) hs_)) (fun k_ hk_ => ⟨hk_.1.1.1, hk_.1.1.2.1, hk_.1.1.2.2.1, hk_.1.1.2.2.2.1, hk_.1.1.2.2.2.2.1, hk_.1.1.2.2.2.2.2.1, hk_.1.1.2.2.2.2.2.2, fun e_ => Or.elim (ho0.1 k_ e_.symm) (fun hs_ => hk_.2.1 hs_) (fun hn_ => Nat.not_le.2 hk_.2.2 hn_)⟩))
     replace HO188 := zK (Kd.R_mono (ok' := fun k_ => some k_ ≠ (.slice Ao25 t175.length co25 : Value).ownBlock ∧ some k_ ≠ (.slice Ao26 t182.length co26 : Value).ownBlock ∧ some k_ ≠ (.slice Ao39 t195.length co39 : Value).ownBlock ∧ some k_ ≠ (.slice Ao40 t202.length co40 : Value).ownBlock ∧ some k_ ≠ (.slice Ao45 t206.length co45 : Value).ownBlock ∧ some k_ ≠ (.slice Ao52 t215.length co52 : Value).ownBlock ∧ some k_ ≠ (.slice Ao58 t223.length co58 : Value).ownBlock ∧ some k_ ≠ (v232 : Value).ownBlock) (Kd.R_keptB (HO188.out) hkp (fun k_ hk_ hs_ => (hk_.2) hs_)) (fun k_ hk_ => ⟨hk_.1.1.1, hk_.1.1.2.1, hk_.1.1.2.2.1, hk_.1.1.2.2.2.1, hk_.1.1.2.2.2.2.1, hk_.1.1.2.2.2.2.2.1, hk_.1.1.2.2.2.2.2.2, fun e_ => Or.elim (ho0.1 k_ e_.symm) (fun hs_ => hk_.2.1 hs_) (fun hn_ => Nat.not_le.2 hk_.2.2 hn_)⟩))
     replace HO197 := zK (Kd.R_mono (ok' := fun k_ => some k_ ≠ (.slice Ao25 t175.length co25 : Value).ownBlock ∧ some k_ ≠ (.slice Ao26 t182.length co26 : Value).ownBlock ∧ some k_ ≠ (.slice Ao30 t186.length co30 : Value).ownBlock ∧ some k_ ≠ (.slice Ao40 t202.length co40 : Value).ownBlock ∧ some k_ ≠ (.slice Ao45 t206.length co45 : Value).ownBlock ∧ some k_ ≠ (.slice Ao52 t215.length co52 : Value).ownBlock ∧ some k_ ≠ (.slice Ao58 t223.length co58 : Value).ownBlock ∧ some k_ ≠ (v232 : Value).ownBlock) (Kd.R_keptB (HO197.out) hkp (fun k_ hk_ hs_ => (hk_.2) hs_)) (fun k_ hk_ => ⟨hk_.1.1.1, hk_.1.1.2.1, hk_.1.1.2.2.1, hk_.1.1.2.2.2.1, hk_.1.1.2.2.2.2.1, hk_.1.1.2.2.2.2.2.1, hk_.1.1.2.2.2.2.2.2, fun e_ => Or.elim (ho0.1 k_ e_.symm) (fun hs_ => hk_.2.1 hs_) (fun hn_ => Nat.not_le.2 hk_.2.2 hn_)⟩))
     replace HO204 := zK (Kd.R_mono (ok' := fun k_ => some k_ ≠ (.slice Ao25 t175.length co25 : Value).ownBlock ∧ some k_ ≠ (.slice Ao26 t182.length co26 : Value).ownBlock ∧ some k_ ≠ (.slice Ao30 t186.length co30 : Value).ownBlock ∧ some k_ ≠ (.slice Ao39 t195.length co39 : Value).ownBlock ∧ some k_ ≠ (.slice Ao45 t206.length co45 : Value).ownBlock ∧ some k_ ≠ (.slice Ao52 t215.length co52 : Value).ownBlock ∧ some k_ ≠ (.slice Ao58 t223.length co58 : Value).ownBlock ∧ some k_ ≠ (v232 : Value).ownBlock) (Kd.R_keptB (HO204.out) hkp (fun k_ hk_ hs_ => (hk_.2) hs_)) (fun k_ hk_ => ⟨hk_.1.1.1, hk_.1.1.2.1, hk_.1.1.2.2.1, hk_.1.1.2.2.2.1, hk_.1.1.2.2.2.2.1, hk_.1.1.2.2.2.2.2.1, hk_.1.1.2.2.2.2.2.2, fun e_ => Or.elim (ho0.1 k_ e_.symm) (fun hs_ => hk_.2.1 hs_) (fun hn_ => Nat.not_le.2 hk_.2.2 hn_)⟩))
     replace HO208 := zK (Kd.R_mono (ok' := fun k_ => some k_ ≠ (.slice Ao25 t175.length co25 : Value).ownBlock ∧ some k_ ≠ (.slice Ao26 t182.length co26 : Value).ownBlock ∧ some k_ ≠ (.slice Ao30 t186.length co30 : Value).ownBlock ∧ some k_ ≠ (.slice Ao39 t195.length co39 : Value).ownBlock ∧ some k_ ≠ (.slice Ao40 t202.length co40 : Value).ownBlock ∧ some k_ ≠ (.slice Ao52 t215.length co52 : Value).ownBlock ∧ some k_ ≠ (.slice Ao58 t223.length co58 : Value).ownBlock ∧ some k_ ≠ (v232 : Value).ownBlock) (Kd.R_keptB (HO208.out) hkp (fun k_ hk_ hs_ => (hk_.2) hs_)) (fun k_ hk_ => ⟨hk_.1.1.1, hk_.1.1.2.1, hk_.1.1.2.2.1, hk_.1.1.2.2.2.1, hk_.1.1.2.2.2.2.1, hk_.1.1.2.2.2.2.2.1, hk_.1.1.2.2.2.2.2.2, fun e_ => Or.elim (ho0.1 k_ e_.symm) (fun hs_ => hk_.2.1 hs_) (fun hn_ => Nat.not_le.2 hk_.2.2 hn_)⟩))
     replace HO217 := zK (Kd.R_mono (ok' := fun k_ => some k_ ≠ (.slice Ao25 t175.length co25 : Value).ownBlock ∧ some k_ ≠ (.slice Ao26 t182.length co26 : Value).ownBlock ∧ some k_ ≠ (.slice Ao30 t186.length co30 : Value).ownBlock ∧ some k_ ≠ (.slice Ao39 t195.length co39 : Value).ownBlock ∧ some k_ ≠ (.slice Ao40 t202.length co40 : Value).ownBlock ∧ some k_ ≠ (.slice Ao45 t206.length co45 : Value).ownBlock ∧ some k_ ≠ (.slice Ao58 t223.length co58 : Value).ownBlock ∧ some k_ ≠ (v232 : Value).ownBlock) (Kd.R_keptB (HO217.out) hkp (fun k_ hk_ hs_ => (hk_.2) hs_)) (fun k_ hk_ => ⟨hk_.1.1.1, hk_.1.1.2.1, hk_.1.1.2.2.1, hk_.1.1.2.2.2.1, hk_.1.1.2.2.2.2.1, hk_.1.1.2.2.2.2.2.1, hk_.1.1.2.2.2.2.2.2, fun e_ => Or.elim (ho0.1 k_ e_.symm) (fun hs_ => hk_.2.1 hs_) (fun hn_ => Nat.not_le.2 hk_.2.2 hn_)⟩))
     replace HO225 := zK (Kd.R_mono (ok' := fun k_ => some k_ ≠ (.slice Ao25 t175.length co25 : Value).ownBlock ∧ some k_ ≠ (.slice Ao26 t182.length co26 : Value).ownBlock ∧ some k_ ≠ (.slice Ao30 t186.length co30 : Value).ownBlock ∧ some k_ ≠ (.slice Ao39 t195.length co39 : Value).ownBlock ∧ some k_ ≠ (.slice Ao40 t202.length co40 : Value).ownBlock ∧ some k_ ≠ (.slice Ao45 t206.length co45 : Value).ownBlock ∧ some k_ ≠ (.slice Ao52 t215.length co52 : Value).ownBlock ∧ some k_ ≠ (v232 : Value).ownBlock) (Kd.R_keptB (HO225.out) hkp (fun k_ hk_ hs_ => (hk_.2) hs_)) (fun k_ hk_ => ⟨hk_.1.1.1, hk_.1.1.2.1, hk_.1.1.2.2.1, hk_.1.1.2.2.2.1, hk_.1.1.2.2.2.2.1, hk_.1.1.2.2.2.2.2.1, hk_.1.1.2.2.2.2.2.2, fun e_ => Or.elim (ho0.1 k_ e_.symm) (fun hs_ => hk_.2.1 hs_) (fun hn_ => Nat.not_le.2 hk_.2.2 hn_)⟩))
     replace HB := zK (hb)
     clear HO229
     (try clear hb)
     (try clear hkp)
     (try clear ho0)
     obtain ⟨Ao64, co64, eo64⟩ := Kd.R_slice HO233.out
     (first | subst eo64 | (injection eo64 with f1_ f2_ f3_; have f4_ := f1_.symm; have f5_ := f3_.symm; clear f1_ f2_ f3_; subst f4_; subst f5_))
     refine hK.out _ _ ⟨(blk_cell BK190.out 0).trans rfl, (blk_cell BK190.out 1).trans rfl, (blk_cell BK210.out 0).trans rfl, (blk_cell BK210.out 1).trans rfl⟩ (fun hHeld => ?_)
     clear hK K
     refine norm_ (a' := ?_) ?_ ?_
     rotate_left
     ·show Act.put _ (some 50) _ = _
      simp only [Act.put, List.setIfInBounds_toArray, List.set_cons_zero, List.set_cons_succ, i64_w, i32_w]
      rfl
     refine one_ (i := 24) (N := some 51) #[true, true, true, true, true, true, true, true, true, true, true, true, true, true, true, true, true, true, true, true, true, true, true, true, true, false, false, false] rfl rfl (one_of HT_.out (by kernel_rfl)) (by decide) (fun K hK => ?_)
     refine goes_ Tryd.func27 (by kernel_rfl) rfl #[.agg #[.int .i64 t230, .slice Ao64 t231.length co64]] (by rfl) rfl rfl (by (try simp only [List.map_toArray, List.map_cons, List.map_nil]); first | done | rfl | (simp only [List.length_drop, List.length_take]; rfl)) ?_
     with_reducible refine (lin_Text.calls (ti_ := ⟨Txt.Tab.below ti_.out (zo HB)⟩) t230 _ _ t231 t234 _ ?side1 ?side2 A16.out).mono ?_
     (case side1 => repeat (first | exact (Kd.R_reads' HO233.out).2.2 | (with_reducible refine cA ?_ _) | (with_reducible refine cN ?_ _) | (with_reducible refine cD ?_)))
     (case side2 => exact (Kd.R_reads' HO233.out).2.1)
     rintro e w65 ⟨rfl, hb⟩
     refine ⟨_, rfl, ?_⟩
     replace HO177 := zK (Kd.R_below (zr HO177) hb)
     replace HO184 := zK (Kd.R_below (zr HO184) hb)
     replace HO188 := zK (Kd.R_below (zr HO188) hb)
     replace HO197 := zK (Kd.R_below (zr HO197) hb)
     replace HO204 := zK (Kd.R_below (zr HO204) hb)
     replace HO208 := zK (Kd.R_below (zr HO208) hb)
     replace HO217 := zK (Kd.R_below (zr HO217) hb)
     replace HO225 := zK (Kd.R_below (zr HO225) hb)
     replace HO233 := zK (Kd.R_below (zr HO233) hb)
     replace BK190 := zK (blk_below (g := gb190) (o := .cells #[.int .i64 t185, .slice Ao30 t186.length co30] 28 (0, 0)) (zb BK190) hb)
     replace BK210 := zK (blk_below (g := gb210) (o := .cells #[.int .i64 t205, .slice Ao45 t206.length co45] 28 (0, 0)) (zb BK210) hb)
     replace HB := zK (below_step (zo HB) hb)
     (try clear hb)
     (try clear hb2)
     (try clear hk)
     (try clear hi)
     refine hK.out _ _ ⟨(blk_cell BK190.out 0).trans rfl, (blk_cell BK190.out 1).trans rfl, (blk_cell BK210.out 0).trans rfl, (blk_cell BK210.out 1).trans rfl⟩ (fun hHeld => ?_)
     clear hK K
     refine norm_ (a' := ?_) ?_ ?_
     rotate_left
     ·show Act.put _ (some 51) _ = _
      simp only [Act.put, List.setIfInBounds_toArray, List.set_cons_zero, List.set_cons_succ, i64_w, i32_w]
      rfl
     refine pure_ (i := 25) (N := some 52) (v := ?_) (a' := ?_) #[true, true, true, true, true, true, true, true, true, true, true, true, true, true, true, true, true, true, true, true, true, true, true, true, true, true, false, false] rfl rfl (any_of HT_.out (by kernel_rfl)) (fun _ _ _ h => h) (Or.inl ⟨by rfl, ?_⟩) ?_ ?_
     rotate_left
     ·intro w'
      go_simp
      with_reducible rfl
     rotate_left
     ·simp only [Act.put, List.setIfInBounds_toArray, List.set_cons_zero, List.set_cons_succ, i64_w, i32_w]
      rfl
     refine pure_ (i := 26) (N := some 53) (v := ?_) (a' := ?_) #[true, true, true, true, true, true, true, true, true, true, true, true, true, true, true, true, true, true, true, true, true, true, true, true, true, true, true, false] rfl rfl (any_of HT_.out (by kernel_rfl)) (fun _ _ _ h => h) (Or.inl ⟨by rfl, ?_⟩) ?_ ?_
     rotate_left
     ·intro w'
      go_simp
      with_reducible rfl
     rotate_left
     ·simp only [Act.put, List.setIfInBounds_toArray, List.set_cons_zero, List.set_cons_succ, i64_w, i32_w]
      rfl
     refine pure_ (i := 27) (N := some 0) (v := ?_) (a' := ?_) #[true, true, true, true, true, true, true, true, true, true, true, true, true, true, true, true, true, true, true, true, true, true, true, true, true, true, true, true] rfl rfl (any_of HT_.out (by kernel_rfl)) (fun _ _ _ h => h) (Or.inl ⟨by rfl, ?_⟩) ?_ ?_
     rotate_left
     ·intro w'
      go_simp
      with_reducible rfl
     rotate_left
     ·simp only [Act.put, List.setIfInBounds_toArray, List.set_cons_zero, List.set_cons_succ, i64_w, i32_w]
      rfl
     refine done_ (done_of HT_.out (by kernel_rfl)) ?_
     try go_wp2
     go_ret
     exact ⟨by first | rfl | (simp [errW_none, errW_some] <;> rfl) | (simp [*, errW_none, errW_some] <;> rfl), zo HB⟩
    ·replace c14 := Bool.eq_false_iff.mpr c14
     subst c14
     have H1 : (none) = some r := by rw [if_neg (show ¬ (false = true) by decide)] at H; exact H
     clear H
     have H := H1
     clear H1
     exact absurd H (by simp)
   ·rw [if_neg c11] at H
    have c11b0 : (t209 == 0) = false := beq_eq_false_iff_ne.mpr c11
    have c11b1 : (t209 != 0) = true := bne_iff_ne.mpr c11
    exact absurd H (by simp)
  ·replace c10 := Bool.eq_false_iff.mpr c10
   subst c10
   have H1 : (none) = some r := by rw [if_neg (show ¬ (false = true) by decide)] at H; exact H
   clear H
   have H := H1
   clear H1
   exact absurd H (by simp)
 ·rw [if_neg c7] at H
  have c7b0 : (t189 == 0) = false := beq_eq_false_iff_ne.mpr c7
  have c7b1 : (t189 != 0) = true := bne_iff_ne.mpr c7
  exact absurd H (by simp)

end Go.Proofs.YtmedciidghmkkaaDoor.PLinValues
