/- What the call of each function that the law reaches comes to: it answers as the plain function of the same name does, wherever that one answers; and the law itself out of its plain form. Written by a program of this session (an extended copy of the printer); no condition but what stands in each theorem. -/
import Derived.Test.YtkfbfgkdabljiaaPShadowSplitsx0
import Derived.Test.YtkfbfgkdabljiaaPShadowSplitsx2
import Derived.Test.YtkfbfgkdabljiaaPShadowSplitsx3
namespace Go.Proofs.Ytkfbfgkdabljiaa.PShadowSplits
open Go.RowKit Go.Proofs.YtkfbfgkdabljiaaW.PrintWords Go.Proofs.YtkfbfgkdabljiaaW.PrintLast Go.Proofs.YtkfbfgkdabljiaaW.PrintMore
open Go.Proofs.YtkfbfgkdabljiaaW.PrintWords renaming blk_drewN → zN, blk_drew → zD, pw_below_drewN → yN, below_drew1 → yD, below_set → yS
open Go.Proofs.YtkfbfgkdabljiaaW.PrintWords.Aside0 renaming mk → zK
open Bool renaming true → T_, false → F_
open List renaming setIfInBounds_toArray → zt, set_cons_zero → zz, set_cons_succ → zs
attribute [local go_sem] max2_int min2_int max_two min_two max_three min_three max_four min_four   -- for this text's walks alone
set_option linter.unusedVariables false
set_option linter.unusedSimpArgs false

/-! ### sequitur/lin.sum: what it comes to -/
def addM (by_ : Int) (acc : List Int) (m : S68) : List Int := acc.set m.f0.toNat (acc.getD m.f0.toNat 0 + m.f1 * by_)
def addF (acc : List Int) (x : S158) : List Int := x.f0.f1.foldl (addM x.f1) acc
def accs (l : List S158) : List Int := l.foldl addF (List.replicate 64 0)
def ksum (l : List S158) : Int := l.foldl (fun s x => s + x.f0.f0 * x.f1) 0
def in64 (n : Int) : Bool := decide (-9223372036854775808 ≤ n) && decide (n ≤ 9223372036854775807)
def goodM (m : S68) : Bool := decide (0 ≤ m.f0) && decide (m.f0 < 64) && in64 m.f1
def goodF (x : S158) : Bool := in64 x.f0.f0 && in64 x.f1 && x.f0.f1.all goodM
def sumOut (acc : List Int) (v : Nat) : List S68 := (List.range v).filterMap fun i => if (fit192 (acc.getD i 0)).1 = 0 then none else some ⟨(i : Int), (fit192 (acc.getD i 0)).1⟩
def sumOk (acc : List Int) (b : Bool) (v : Nat) : Bool := b && (List.range v).all fun i => (fit192 (acc.getD i 0)).2
def lin_sum.f (l0 : List S158) : Option (Int × List S68 × Int) :=
 if l0.all goodF = true then some (if sumOk (accs l0) (fit192 (ksum l0)).2 64 = true then ((fit192 (ksum l0)).1, sumOut (accs l0) 64, 0) else (0, [], 5)) else none

theorem in64_iff {n : Int} (h : in64 n = true) : -9223372036854775808 ≤ n ∧ n ≤ 9223372036854775807 := by
 simpa [in64] using h
theorem addM_length (b : Int) (acc : List Int) (m : S68) : (addM b acc m).length = acc.length := by simp [addM]
theorem foldM_length (b : Int) (l : List S68) : ∀ acc : List Int, (l.foldl (addM b) acc).length = acc.length := by
 induction l with
 | nil => intro acc; rfl
 | cons m l ih => intro acc; rw [List.foldl_cons, ih, addM_length]
theorem addF_length (acc : List Int) (x : S158) : (addF acc x).length = acc.length := foldM_length _ _ _
theorem foldF_length (l : List S158) : ∀ acc : List Int, (l.foldl addF acc).length = acc.length := by
 induction l with
 | nil => intro acc; rfl
 | cons m l ih => intro acc; rw [List.foldl_cons, ih, addF_length]

/-! a block of numbers of 192 bits -/
def cells3 (s : Int) : List Value := [.int .u64 (limb0 s), .int .u64 (limb1 s), .int .u64 (limb2 s)]
def accCells (acc : List Int) : Array Value := (acc.flatMap cells3).toArray
theorem cells3_length (s : Int) : (cells3 s).length = 3 := rfl
theorem accCells_get (acc : List Int) : ∀ (v : Nat), v < acc.length → ∀ j, j < 3 → (acc.flatMap cells3)[3 * v + j]? = (cells3 (acc.getD v 0))[j]? := by
 induction acc with
 | nil => intro v hv; simp at hv
 | cons s acc ih =>
  intro v hv j hj
  rw [List.flatMap_cons]
  cases v with
  | zero => rw [List.getElem?_append_left (by rw [cells3_length]; omega)]; simp
  | succ v =>
   rw [List.getElem?_append_right (by rw [cells3_length]; omega), cells3_length, show 3 * (v + 1) + j - 3 = 3 * v + j by omega, ih v (by simpa using hv) j hj]
   simp
theorem accCells_at (acc : List Int) (v : Nat) (hv : v < acc.length) : At3 (accCells acc) (3 * v) (acc.getD v 0) := by
 have h := accCells_get acc v hv
 unfold At3 accCells
 simp only [List.getElem?_toArray]
 refine ⟨?_, ?_, ?_⟩
 ·have := h 0 (by omega); rw [Nat.add_zero] at this; rw [this]; rfl
 ·rw [h 1 (by omega)]; rfl
 ·rw [h 2 (by omega)]; rfl
theorem accCells_set (acc : List Int) : ∀ (v : Nat) (s : Int), v < acc.length →
  (((acc.flatMap cells3).set (3 * v) (.int .u64 (limb0 s))).set (3 * v + 1) (.int .u64 (limb1 s))).set (3 * v + 2) (.int .u64 (limb2 s)) = (acc.set v s).flatMap cells3 := by
 induction acc with
 | nil => intro v s hv; simp at hv
 | cons t acc ih =>
  intro v s hv
  cases v with
  | zero => simp [cells3, List.flatMap_cons]
  | succ v =>
   have := ih v s (by simpa using hv)
   rw [List.set_cons_succ, List.flatMap_cons, List.flatMap_cons, ← this]
   have e : ∀ (k : Nat) (u : Value) (L : List Value), (cells3 t ++ L).set (k + 3) u = cells3 t ++ L.set k u := by
    intro k u L
    rw [List.set_append_right _ _ (by rw [cells3_length]; omega), cells3_length]; congr 2
   rw [show 3 * (v + 1) = 3 * v + 3 by omega, show 3 * v + 3 + 1 = (3 * v + 1) + 3 by omega, show 3 * v + 3 + 2 = (3 * v + 2) + 3 by omega, e, e, e]
theorem accCells_put (acc : List Int) (v : Nat) (s : Int) (hv : v < acc.length) : put3 (accCells acc) (3 * v) s = accCells (acc.set v s) := by
 unfold put3 accCells
 rw [← accCells_set acc v s hv]
 simp
theorem accs_take (l : List S158) (i : Nat) (h : i < l.length) : accs (l.take (i + 1)) = addF (accs (l.take i)) l[i] := by
 unfold accs
 rw [List.take_succ_eq_append_getElem h, List.foldl_append]; rfl
theorem ksum_take (l : List S158) (i : Nat) (h : i < l.length) : ksum (l.take (i + 1)) = ksum (l.take i) + l[i].f0.f0 * l[i].f1 := by
 unfold ksum
 rw [List.take_succ_eq_append_getElem h, List.foldl_append]; rfl
theorem accs_length (l : List S158) : (accs l).length = 64 := by
 unfold accs; rw [foldF_length]; simp
theorem sumOut_succ (acc : List Int) (v : Nat) : sumOut acc (v + 1) = sumOut acc v ++ (if (fit192 (acc.getD v 0)).1 = 0 then [] else [⟨(v : Int), (fit192 (acc.getD v 0)).1⟩]) := by
 unfold sumOut
 rw [List.range_succ, List.filterMap_append]
 congr 1
 simp only [List.filterMap_cons, List.filterMap_nil]
 split <;> split <;> simp_all
theorem sumOk_succ (acc : List Int) (b : Bool) (v : Nat) : sumOk acc b (v + 1) = (sumOk acc b v && (fit192 (acc.getD v 0)).2) := by
 unfold sumOk
 rw [List.range_succ, List.all_append, ← Bool.and_assoc]
 simp
theorem sumOut_length (acc : List Int) (v : Nat) : (sumOut acc v).length ≤ v := by
 have := List.length_filterMap_le (fun i => if (fit192 (acc.getD i 0)).1 = 0 then none else some (⟨(i : Int), (fit192 (acc.getD i 0)).1⟩ : S68)) (List.range v)
 rwa [List.length_range] at this

/-! ### shadow_shade: function 77, by hand -/
def subM (by_ : Int) (acc : List Int) (m : S68) : List Int := acc.set m.f0.toNat (acc.getD m.f0.toNat 0 - m.f1 * by_)
def shadeK (ka kb low up : Int) (dark : Bool) : Int := if dark then ka * up - kb * low - low * up + low * 1 - up * 1 + 1 * 1 else ka * up - kb * low
def shadeL (la lb : List S68) (low up : Int) : List Int := lb.foldl (subM low) (la.foldl (addM up) (List.replicate 64 0))
def shadow_shade.f (k : Nat) (a0_0 : Int) (l0_1 : List S68) (a1_0 : Int) (l1_1 : List S68) (a2 : Int) (a3 : Bool) : Option (Int × List S68 × Bool) :=
 (lin_By.f k a0_0 l0_1 a2).bind fun low => (lin_By.f k a1_0 l1_1 a2).bind fun up =>
  if (in64 a0_0 && in64 a1_0 && in64 low && in64 up && l0_1.all goodM && l1_1.all goodM) = true then
   some ((fit192 (shadeK a0_0 a1_0 low up a3)).1, sumOut (shadeL l0_1 l1_1 low up) 64, sumOk (shadeL l0_1 l1_1 low up) (fit192 (shadeK a0_0 a1_0 low up a3)).2 64)
  else none
theorem shadow_shade.mono : ∀ a0_0 l0_1 a1_0 l1_1 a2 a3 k, LeO (shadow_shade.f k a0_0 l0_1 a1_0 l1_1 a2 a3) (shadow_shade.f (k + 1) a0_0 l0_1 a1_0 l1_1 a2 a3) := by
 intro a0_0 l0_1 a1_0 l1_1 a2 a3 k
 unfold shadow_shade.f
 refine LeO.bind (lin_By.mono _ _ _ _) (fun low => ?_)
 refine LeO.bind (lin_By.mono _ _ _ _) (fun up => ?_)
 exact LeO.refl _
theorem samebut_trans {w1 w2 w3 : World} {g : Nat} (h : SameBut w1 w2 g) (k : SameBut w2 w3 g) : SameBut w1 w3 g :=
 ⟨k.os.trans h.os, k.tape.trans h.tape, k.output.trans h.output, k.size.trans h.size, fun i hi => (k.block i hi).trans (h.block i hi)⟩
theorem subM_length (b : Int) (acc : List Int) (m : S68) : (subM b acc m).length = acc.length := by simp [subM]
theorem foldS_length (b : Int) (l : List S68) : ∀ acc : List Int, (l.foldl (subM b) acc).length = acc.length := by
 induction l with
 | nil => intro acc; rfl
 | cons m l ih => intro acc; rw [List.foldl_cons, ih, subM_length]
def shadow_shade.T1 : Bool × List (List Nat × List Nat) := (true, [([], []), ([], []), ([0, 1], [0, 1]), ([], []), ([], []), ([3, 4, 2], [3, 4]), ([2, 5, 0, 1, 2], [2]), ([5, 6, 0, 1, 2, 3, 4, 5, 6], [5])])
def shadow_shade.B1 : List Nat := [0, 0, 3, 0, 0, 31, 63, 127]
theorem shadow_shade.tab1 : rtab .any (opsOf Try.f77 1) = shadow_shade.T1 := by kernel_rfl
theorem shadow_shade.bits1 : waitsOk shadow_shade.T1.2 shadow_shade.B1 = true := by kernel_rfl
set_option maxHeartbeats 16000000 in
set_option maxRecDepth 100000 in
theorem shade_walk (k : Nat) (a0_0 : Int) (A0_1 : Option Addr) (c0_1 : Nat) (l0_1 : List S68) (a1_0 : Int) (A1_1 : Option Addr) (c1_1 : Nat) (l1_1 : List S68) (a2 : Int) (a3 : Bool) (low up : Int) (N0 : Int) (D0 : Bool) (w : World)
  (hr0 : Kd.C k68 w A0_1 l0_1.length l0_1) (hc0 : l0_1.length ≤ c0_1) (hr1 : Kd.C k68 w A1_1 l1_1.length l1_1) (hc1 : l1_1.length ≤ c1_1) (hlow : lin_By.f k a0_0 l0_1 a2 = some low) (hup : lin_By.f k a1_0 l1_1 a2 = some up)
  (hg : in64 a0_0 = true ∧ in64 a1_0 = true ∧ in64 low = true ∧ in64 up = true ∧ l0_1.all goodM = true ∧ l1_1.all goodM = true) (hN0 : N0 = (fit192 (shadeK a0_0 a1_0 low up a3)).1) (hD0 : D0 = (fit192 (shadeK a0_0 a1_0 low up a3)).2) :
  Calls Try.prog 77 #[.agg #[.int .i64 a0_0, .slice A0_1 l0_1.length c0_1], .agg #[.int .i64 a1_0, .slice A1_1 l1_1.length c1_1], .int .i64 a2, .bool a3] w fun e w' => ∃ v1_ : Value, e = .returned (.tuple #[.agg #[.int .i64 N0, v1_], .bool (sumOk (shadeL l0_1 l1_1 low up) D0 64)]) ∧ Kd.R k68 68 w' w.heap.size (fun _ => True) v1_ (sumOut (shadeL l0_1 l1_1 low up) 64) ∧ Below w.heap.size w w' := by
 have hu28 := Try.underlying62
 have hu47 := Try.underlying68
 have HR0 := zK hr0
 have HC0 := zK hc0
 have HR1 := zK hr1
 have HC1 := zK hc1
 have HLOW := zK hlow
 have HUP := zK hup
 have RG := zK hg
 obtain ⟨SK, hSK⟩ : ∃ SK, SK = shadeK a0_0 a1_0 low up a3 := ⟨_, rfl⟩
 rw [← hSK] at hN0 hD0
 have HSK := zK hSK; clear hSK
 have HN0 := zK hN0
 have HD0 := zK hD0; clear hr0 hc0 hr1 hc1 hlow hup hg hN0 hD0
 cases a3
 all_goals
  go_enter Try.func77, Try.ntmps77
  go_wp2_with (first
   | ((with_reducible refine gate_dst (N := 4) rfl ?_); refine box_event ?hg (N := 4) ?hd (cs := #[.int .i64 a0_0, .slice A0_1 l0_1.length c0_1]) (t := 62) ?hr ?_; (case hd => rfl); (case hg => rfl); (case hr => first | (go_simp; done) | (go_simp; rfl)); intro gP hg_ w1 hbox_ hb_; have EP := zK hg_; have BP0 := zK hbox_; have HB1 := zK hb_; clear hg_ hbox_ hb_)
   | ((with_reducible refine gate_dst (N := 5) rfl ?_); refine box_event ?hg (N := 5) ?hd (cs := #[.int .i64 a1_0, .slice A1_1 l1_1.length c1_1]) (t := 62) ?hr ?_; (case hd => rfl); (case hg => rfl); (case hr => first | (go_simp; done) | (go_simp; rfl)); intro gQ hg_ w2 hbox_ hb_; have EQ_ := zK hg_; have BQ0 := zK hbox_; have HB2 := zK hb_; clear hg_ hbox_ hb_)
   | ((with_reducible refine gate_dst (N := 8) rfl ?_); refine box_event ?hg (N := 8) ?hd (cs := #[.int .i64 0, .slice none 0 0]) (t := 62) ?hr ?_; (case hd => rfl); (case hg => rfl); (case hr => first | (go_simp; done) | (go_simp; rfl)); intro gR hg_ w3 hbox_ hb_; have ER := zK hg_; have BR0 := zK hbox_; have HB3 := zK hb_; clear hg_ hbox_ hb_))
  have NPQ := zK (show gP ≠ gQ by have := EP.out; have := EQ_.out; have := blk_lt BP0.out; omega)
  have GR := zK (show w.heap.size ≤ gR by have := ER.out; have := HB1.out.size; have := HB2.out.size; omega)
  have BP := zK (zD (blk_below (blk_below BP0.out HB2.out) HB3.out))
  have BQ := zK (zD (blk_below BQ0.out HB3.out))
  have BR := zK (zD BR0.out)
  have HB := zK (yD (below_step (below_step HB1.out HB2.out) HB3.out))
  have NPR := zK (show gP ≠ gR by have := ER.out; have := blk_lt BP0.out; have := HB2.out.size; omega)
  have NQR := zK (show gQ ≠ gR by have := ER.out; have := blk_lt BQ0.out; omega)
  clear HB1 HB2 HB3 BP0 BQ0 BR0 EP EQ_ ER
  refine start_ (n := 8) (S := fun w' => w'.cell? ⟨gP, 0, none⟩ = some (.int .i64 a0_0) ∧ w'.cell? ⟨gP, 1, none⟩ = some (.slice A0_1 l0_1.length c0_1) ∧ w'.cell? ⟨gQ, 0, none⟩ = some (.int .i64 a1_0) ∧ w'.cell? ⟨gQ, 1, none⟩ = some (.slice A1_1 l1_1.length c1_1)) (ds := []) #[F_,F_,F_,F_,F_,F_,F_,F_] (by kernel_rfl) rfl rfl ⟨(blk_cell BP.out 0).trans rfl, (blk_cell BP.out 1).trans rfl, (blk_cell BQ.out 0).trans rfl, (blk_cell BQ.out 1).trans rfl⟩ (fun hHeld => ?_); refine with_tabW shadow_shade.tab1 shadow_shade.bits1 (fun HT_ HW_ => ?_)
  generalize w3.drew = w4 at BP BQ BR HB hHeld ⊢
  refine pure_ (i := 1) (N := some 25) (v := ?_) (a' := ?_) #[F_,T_,F_,F_,F_,F_,F_,F_] rfl rfl (any_of HT_.out (by kernel_rfl)) (fun _ _ _ h => h) (Or.inl ⟨by rfl, ?_⟩) ?_ ?_; rotate_left; (intro w'; go_simp; with_reducible rfl); rotate_left; (simp only [Act.put, zt, zz, zs, i64_w, i32_w]; rfl)
  refine pure_ (i := 4) (N := some 28) (v := ?_) (a' := ?_) #[F_,T_,F_,F_,T_,F_,F_,F_] rfl rfl (any_of HT_.out (by kernel_rfl)) (fun _ _ _ h => h) (Or.inl ⟨by rfl, ?_⟩) ?_ ?_; rotate_left; (intro w'; go_simp; with_reducible rfl); rotate_left; (simp only [Act.put, zt, zz, zs, i64_w, i32_w]; rfl)
  refine take_ (i := 0) (N := some 24) (v := ?_) (a' := ?_) #[T_,T_,F_,F_,T_,F_,F_,F_] rfl rfl (take_ofW HT_.out HW_.out (by kernel_rfl)) (fun _ _ _ h => h) (Or.inl ⟨by rfl, ?_⟩) hHeld ?_ ?_; rotate_left; (rintro w' ⟨s0, s1, s2, s3⟩; go_simp; with_reducible rfl); rotate_left; (simp only [Act.put, zt, zz, zs, i64_w, i32_w]; rfl)
  refine take_ (i := 3) (N := some 27) (v := ?_) (a' := ?_) #[T_,T_,F_,T_,T_,F_,F_,F_] rfl rfl (take_ofW HT_.out HW_.out (by kernel_rfl)) (fun _ _ _ h => h) (Or.inl ⟨by rfl, ?_⟩) hHeld ?_ ?_; rotate_left; (rintro w' ⟨s0, s1, s2, s3⟩; go_simp; with_reducible rfl); rotate_left; (simp only [Act.put, zt, zz, zs, i64_w, i32_w]; rfl)
  refine one_ (i := 2) (N := some 26) #[T_,T_,T_,T_,T_,F_,F_,F_] rfl rfl (one_of HT_.out (by kernel_rfl)) (by decide) (fun K hK => ?_)
  refine goes_ Try.func46 (by kernel_rfl) rfl #[.agg #[.int .i64 a0_0, .slice A0_1 l0_1.length c0_1], .int .i64 a2] (by rfl) rfl rfl (by (try simp only [List.map_toArray, List.map_cons, List.map_nil]); first | done | rfl | (simp only [List.length_drop, List.length_take]; rfl)) ?_
  with_reducible refine (lin_By.calls k a0_0 _ _ l0_1 a2 low _ ?side1 ?side2 HLOW.out).mono ?_
  (case side1 => exact Kd.C_below HR0.out HB.out)
  (case side2 => exact HC0.out)
  rintro e w5 ⟨rfl, hb⟩
  refine ⟨_, rfl, ?_⟩
  replace BP := zK (blk_below BP.out hb)
  replace BQ := zK (blk_below BQ.out hb)
  replace BR := zK (blk_below BR.out hb)
  replace HB := zK (below_step HB.out hb); clear hb
  refine hK.out _ _ ⟨(blk_cell BP.out 0).trans rfl, (blk_cell BP.out 1).trans rfl, (blk_cell BQ.out 0).trans rfl, (blk_cell BQ.out 1).trans rfl⟩ (fun hHeld => ?_)
  clear hK K
  refine norm_ (a' := ?_) ?_ ?_; rotate_left; (show Act.put _ (some 26) _ = _; simp only [Act.put, zt, zz, zs, i64_w, i32_w]; rfl)
  refine one_ (i := 5) (N := some 29) #[T_,T_,T_,T_,T_,T_,F_,F_] rfl rfl (one_of HT_.out (by kernel_rfl)) (by decide) (fun K hK => ?_)
  refine goes_ Try.func46 (by kernel_rfl) rfl #[.agg #[.int .i64 a1_0, .slice A1_1 l1_1.length c1_1], .int .i64 a2] (by rfl) rfl rfl (by (try simp only [List.map_toArray, List.map_cons, List.map_nil]); first | done | rfl | (simp only [List.length_drop, List.length_take]; rfl)) ?_
  with_reducible refine (lin_By.calls k a1_0 _ _ l1_1 a2 up _ ?side1 ?side2 HUP.out).mono ?_
  (case side1 => exact Kd.C_below HR1.out HB.out)
  (case side2 => exact HC1.out)
  rintro e w6 ⟨rfl, hb⟩
  refine ⟨_, rfl, ?_⟩
  replace BP := zK (blk_below BP.out hb)
  replace BQ := zK (blk_below BQ.out hb)
  replace BR := zK (blk_below BR.out hb)
  replace HB := zK (below_step HB.out hb); clear hb
  refine hK.out _ _ ⟨(blk_cell BP.out 0).trans rfl, (blk_cell BP.out 1).trans rfl, (blk_cell BQ.out 0).trans rfl, (blk_cell BQ.out 1).trans rfl⟩ (fun hHeld => ?_)
  clear hK K
  refine norm_ (a' := ?_) ?_ ?_; rotate_left; (show Act.put _ (some 29) _ = _; simp only [Act.put, zt, zz, zs, i64_w, i32_w]; rfl)
  refine pure_ (i := 6) (N := some 10) (v := ?_) (a' := ?_) #[T_,T_,T_,T_,T_,T_,T_,F_] rfl rfl (any_of HT_.out (by kernel_rfl)) (fun _ _ _ h => h) (Or.inl ⟨by rfl, ?_⟩) ?_ ?_; rotate_left; (intro w'; go_simp; with_reducible rfl); rotate_left; (simp only [Act.put, zt, zz, zs, i64_w, i32_w]; rfl)
  refine pure_ (i := 7) (N := some 11) (v := ?_) (a' := ?_) #[T_,T_,T_,T_,T_,T_,T_,T_] rfl rfl (any_of HT_.out (by kernel_rfl)) (fun _ _ _ h => h) (Or.inl ⟨by rfl, ?_⟩) ?_ ?_; rotate_left; (intro w'; go_simp; with_reducible rfl); rotate_left; (simp only [Act.put, zt, zz, zs, i64_w, i32_w]; rfl)
  refine done_ (done_of HT_.out (by kernel_rfl)) ?_
  go_wp2_with (first
   | ((with_reducible refine gate_dst (N := 12) rfl ?_); refine box_event ?hg (N := 12) ?hd (cs := accCells [0]) (t := 128) ?hr ?_; (case hd => rfl); (case hg => rfl); (case hr => first | (go_simp; done) | (go_simp; rfl)); intro gK hg_ wk hbox_ hb_; have EK := zK hg_; have BKn := zK hbox_; have HBK := zK hb_; clear hg_ hbox_ hb_)
   | ((with_reducible refine gate_dst (N := 13) rfl ?_); refine box_event ?hg (N := 13) ?hd (cs := accCells (List.replicate 64 0)) (t := 139) ?hr ?_; (case hd => rfl); (case hg => rfl); (case hr => first | (go_simp; done) | (go_simp; rfl)); intro gB hg_ wb hbox_ hb_; have EB := zK hg_; have BBn := zK hbox_; have HBB := zK hb_; clear hg_ hbox_ hb_; have BK0 := zK (blk_below BKn.out HBB.out); have NQK := zK (show gQ ≠ gK by have := EK.out; have := blk_lt BQ.out; omega); have NPK := zK (show gP ≠ gK by have := EK.out; have := blk_lt BP.out; omega); have NRK := zK (show gR ≠ gK by have := EK.out; have := blk_lt BR.out; omega); have NKB := zK (show gK ≠ gB by have := EB.out; have := blk_lt BKn.out; omega); have NQB := zK (show gQ ≠ gB by have := EB.out; have := EK.out; have := blk_lt BQ.out; have := HBK.out.size; omega); have NPB := zK (show gP ≠ gB by have := EB.out; have := EK.out; have := blk_lt BP.out; have := HBK.out.size; omega); have NRB := zK (show gR ≠ gB by have := EB.out; have := EK.out; have := blk_lt BR.out; have := HBK.out.size; omega); have GK := zK (show w.heap.size ≤ gK by have := EK.out; have := HB.out.size; omega); have GB := zK (show w.heap.size ≤ gB by have := EB.out; have := EK.out; have := HB.out.size; have := HBK.out.size; omega); replace BP := zK (blk_below (blk_below BP.out HBK.out) HBB.out); replace BQ := zK (blk_below (blk_below BQ.out HBK.out) HBB.out); replace BR := zK (blk_below (blk_below BR.out HBK.out) HBB.out); replace HB := zK (below_step (below_step HB.out HBK.out) HBB.out); have SB0 := zK (SameBut.refl wb gK); clear BKn HBK HBB EK EB; have hp0 : wb.cell? ⟨gP, 0, none⟩ = some (.int .i64 a0_0) := (blk_cell BP.out 0).trans rfl)
   | (go_at_call 88; refine (exact_Add gK 0 (0) (a0_0) (up) _ 128 (accCells [0]) (in64_iff RG.out.1).1 (in64_iff RG.out.1).2 (in64_iff RG.out.2.2.2.1).1 (in64_iff RG.out.2.2.2.1).2 BK0.out (accCells_at [0] 0 (by simp))).mono ?_; rintro e wk1 ⟨rfl, hk_, hs_⟩; have BK1 : Aside0 (wk1.heap[gK]? = some (.cells (accCells [0 + a0_0 * up]) 128 (0, 0))) := zK (hk_.trans (congrArg (fun z => some (Obj.cells z 128 (0, 0))) (accCells_put [0] 0 (0 + a0_0 * up) (by simp)))); have SB1 := zK (samebut_trans SB0.out hs_); clear hk_ hs_ BK0 SB0; clear hp0; have hq0 : wk1.cell? ⟨gQ, 0, none⟩ = some (.int .i64 a1_0) := (blk_cell ((SB1.out.block gQ NQK.out).trans BQ.out) 0).trans rfl)
   | (go_at_call 101; refine (exact_Sub gK 0 (0 + a0_0 * up) (a1_0) (low) _ 128 (accCells [0 + a0_0 * up]) (in64_iff RG.out.2.1).1 (in64_iff RG.out.2.1).2 (in64_iff RG.out.2.2.1).1 (in64_iff RG.out.2.2.1).2 BK1.out (accCells_at [0 + a0_0 * up] 0 (by simp))).mono ?_; rintro e wk2 ⟨rfl, hk_, hs_⟩; have BK2 : Aside0 (wk2.heap[gK]? = some (.cells (accCells [0 + a0_0 * up - a1_0 * low]) 128 (0, 0))) := zK (hk_.trans (congrArg (fun z => some (Obj.cells z 128 (0, 0))) (accCells_put [0 + a0_0 * up] 0 (0 + a0_0 * up - a1_0 * low) (by simp)))); have SB2 := zK (samebut_trans SB1.out hs_); clear hk_ hs_ BK1 SB1; clear hq0; have hl0 : wk2.cell? ⟨gP, 1, none⟩ = some (.slice A0_1 l0_1.length c0_1) := (blk_cell ((SB2.out.block gP NPK.out).trans BP.out) 1).trans rfl)
   | (go_at_call 101; refine (exact_Sub gK 0 (0 + a0_0 * up - a1_0 * low) (low) (up) _ 128 (accCells [0 + a0_0 * up - a1_0 * low]) (in64_iff RG.out.2.2.1).1 (in64_iff RG.out.2.2.1).2 (in64_iff RG.out.2.2.2.1).1 (in64_iff RG.out.2.2.2.1).2 BK2.out (accCells_at [0 + a0_0 * up - a1_0 * low] 0 (by simp))).mono ?_; rintro e wk3 ⟨rfl, hk_, hs_⟩; have BK3 : Aside0 (wk3.heap[gK]? = some (.cells (accCells [0 + a0_0 * up - a1_0 * low - low * up]) 128 (0, 0))) := zK (hk_.trans (congrArg (fun z => some (Obj.cells z 128 (0, 0))) (accCells_put [0 + a0_0 * up - a1_0 * low] 0 (0 + a0_0 * up - a1_0 * low - low * up) (by simp)))); have SB3 := zK (samebut_trans SB2.out hs_); clear hk_ hs_ BK2 SB2)
   | (go_at_call 88; refine (exact_Add gK 0 (0 + a0_0 * up - a1_0 * low - low * up) (low) (1) _ 128 (accCells [0 + a0_0 * up - a1_0 * low - low * up]) (in64_iff RG.out.2.2.1).1 (in64_iff RG.out.2.2.1).2 (by decide) (by decide) BK3.out (accCells_at [0 + a0_0 * up - a1_0 * low - low * up] 0 (by simp))).mono ?_; rintro e wk4 ⟨rfl, hk_, hs_⟩; have BK4 : Aside0 (wk4.heap[gK]? = some (.cells (accCells [0 + a0_0 * up - a1_0 * low - low * up + low * 1]) 128 (0, 0))) := zK (hk_.trans (congrArg (fun z => some (Obj.cells z 128 (0, 0))) (accCells_put [0 + a0_0 * up - a1_0 * low - low * up] 0 (0 + a0_0 * up - a1_0 * low - low * up + low * 1) (by simp)))); have SB4 := zK (samebut_trans SB3.out hs_); clear hk_ hs_ BK3 SB3)
   | (go_at_call 101; refine (exact_Sub gK 0 (0 + a0_0 * up - a1_0 * low - low * up + low * 1) (up) (1) _ 128 (accCells [0 + a0_0 * up - a1_0 * low - low * up + low * 1]) (in64_iff RG.out.2.2.2.1).1 (in64_iff RG.out.2.2.2.1).2 (by decide) (by decide) BK4.out (accCells_at [0 + a0_0 * up - a1_0 * low - low * up + low * 1] 0 (by simp))).mono ?_; rintro e wk5 ⟨rfl, hk_, hs_⟩; have BK5 : Aside0 (wk5.heap[gK]? = some (.cells (accCells [0 + a0_0 * up - a1_0 * low - low * up + low * 1 - up * 1]) 128 (0, 0))) := zK (hk_.trans (congrArg (fun z => some (Obj.cells z 128 (0, 0))) (accCells_put [0 + a0_0 * up - a1_0 * low - low * up + low * 1] 0 (0 + a0_0 * up - a1_0 * low - low * up + low * 1 - up * 1) (by simp)))); have SB5 := zK (samebut_trans SB4.out hs_); clear hk_ hs_ BK4 SB4)
   | (go_at_call 88; refine (exact_Add gK 0 (0 + a0_0 * up - a1_0 * low - low * up + low * 1 - up * 1) (1) (1) _ 128 (accCells [0 + a0_0 * up - a1_0 * low - low * up + low * 1 - up * 1]) (by decide) (by decide) (by decide) (by decide) BK5.out (accCells_at [0 + a0_0 * up - a1_0 * low - low * up + low * 1 - up * 1] 0 (by simp))).mono ?_; rintro e wk6 ⟨rfl, hk_, hs_⟩; have BK6 : Aside0 (wk6.heap[gK]? = some (.cells (accCells [0 + a0_0 * up - a1_0 * low - low * up + low * 1 - up * 1 + 1 * 1]) 128 (0, 0))) := zK (hk_.trans (congrArg (fun z => some (Obj.cells z 128 (0, 0))) (accCells_put [0 + a0_0 * up - a1_0 * low - low * up + low * 1 - up * 1] 0 (0 + a0_0 * up - a1_0 * low - low * up + low * 1 - up * 1 + 1 * 1) (by simp)))); have SB6 := zK (samebut_trans SB5.out hs_); clear hk_ hs_ BK5 SB5; have hl0 : wk6.cell? ⟨gP, 1, none⟩ = some (.slice A0_1 l0_1.length c0_1) := (blk_cell ((SB6.out.block gP NPK.out).trans BP.out) 1).trans rfl))
  have BK := zK (show _ = some (Obj.cells (accCells [SK]) 128 (0, 0)) from by first | exact BK6.out.trans (by rw [HSK.out]; simp [shadeK]) | exact BK2.out.trans (by rw [HSK.out]; simp [shadeK]))
  try clear BK2; try clear BK6
  have SB := (by first | exact SB6 | exact SB2)
  try clear SB2; try clear SB6
  replace BP := zK ((SB.out.block gP NPK.out).trans BP.out)
  replace BQ := zK ((SB.out.block gQ NQK.out).trans BQ.out)
  replace BR := zK ((SB.out.block gR NRK.out).trans BR.out)
  have BB := zK ((SB.out.block gB (Ne.symm NKB.out)).trans BBn.out)
  replace HB := zK (HB.out.trans (SB.out.below GK.out)); clear BBn SB
  go_loopg [50] l0_1.length (fun gm v50 w' => ∃ (y : Int), v50 = .int .i64 y ∧ Aside0 (∃ j : Nat, y = j ∧ j + gm = l0_1.length ∧ w'.heap[gB]? = some (.cells (accCells ((l0_1.take j).foldl (addM up) (List.replicate 64 0))) 139 (0, 0))) ∧ Aside0 (w'.heap[gK]? = some (.cells (accCells [SK]) 128 (0, 0))) ∧ Aside0 (w'.heap[gQ]? = some (.cells #[.int .i64 a1_0, .slice A1_1 l1_1.length c1_1] 62 (0, 0))) ∧ Aside0 (w'.heap[gR]? = some (.cells #[.int .i64 0, .slice none 0 0] 62 (0, 0))) ∧ Aside0 (Below w.heap.size w w'))
  case atStart => exact ⟨0, rfl, ⟨0, rfl, by omega, BB.out⟩, ⟨BK.out⟩, ⟨BQ.out⟩, ⟨BR.out⟩, ⟨HB.out⟩⟩
  case round =>
   clear BB BK BQ BR HB BP
   obtain ⟨y, rfl, HY, BK, BQ, BR, HB⟩ := hrel
   obtain ⟨j, hyj, hgm, bb⟩ := HY.out; clear HY
   have BB := zK bb; clear bb
   have HJ := zK hyj
   have HGM := zK hgm; clear hyj hgm
   cases gk with
   | zero =>
    have c2 : decide (y < (l0_1.length : Int)) = false := decide_eq_false (by have := HJ.out; have := HGM.out; omega)
    have hj : l0_1.take j = l0_1 := List.take_of_length_le (by have := HGM.out; omega)
    have BB2 := zK (show wr.heap[gB]? = some (.cells (accCells (l0_1.foldl (addM up) (List.replicate 64 0))) 139 (0, 0)) by have h_ := BB.out; rw [hj] at h_; exact h_)
    clear hj BB HJ HGM
    have BB := BB2; clear BB2
    have hl1 : wr.cell? ⟨gQ, 1, none⟩ = some (.slice A1_1 l1_1.length c1_1) := (blk_cell BQ.out 1).trans rfl
    go_wp2
    clear hl1
    go_loopg [65] l1_1.length (fun gm v65 w' => ∃ (y : Int), v65 = .int .i64 y ∧ Aside0 (∃ j : Nat, y = j ∧ j + gm = l1_1.length ∧ w'.heap[gB]? = some (.cells (accCells ((l1_1.take j).foldl (subM low) (l0_1.foldl (addM up) (List.replicate 64 0)))) 139 (0, 0))) ∧ Aside0 (w'.heap[gK]? = some (.cells (accCells [SK]) 128 (0, 0))) ∧ Aside0 (w'.heap[gQ]? = some (.cells #[.int .i64 a1_0, .slice A1_1 l1_1.length c1_1] 62 (0, 0))) ∧ Aside0 (w'.heap[gR]? = some (.cells #[.int .i64 0, .slice none 0 0] 62 (0, 0))) ∧ Aside0 (Below w.heap.size w w'))
    case atStart => exact ⟨0, rfl, ⟨0, rfl, by omega, BB.out⟩, ⟨BK.out⟩, ⟨BQ.out⟩, ⟨BR.out⟩, ⟨HB.out⟩⟩
    case round =>
     clear BB BK BQ BR HB 
     obtain ⟨y, rfl, HY, BK, BQ, BR, HB⟩ := hrel
     obtain ⟨j, hyj, hgm, bb⟩ := HY.out; clear HY
     have BB := zK bb; clear bb
     have HJ := zK hyj
     have HGM := zK hgm; clear hyj hgm
     cases gk with
     | zero =>
      have c2 : decide (y < (l1_1.length : Int)) = false := decide_eq_false (by have := HJ.out; have := HGM.out; omega)
      have hj : l1_1.take j = l1_1 := List.take_of_length_le (by have := HGM.out; omega)
      have BB2 := zK (show wr.heap[gB]? = some (.cells (accCells (l1_1.foldl (subM low) (l0_1.foldl (addM up) (List.replicate 64 0)))) 139 (0, 0)) by have h_ := BB.out; rw [hj] at h_; exact h_)
      clear hj BB HJ HGM
      have BB := BB2; clear BB2
      have SHL := zK (show shadeL l0_1 l1_1 low up = l1_1.foldl (subM low) (l0_1.foldl (addM up) (List.replicate 64 0)) from rfl)
      rw [← SHL.out] at BB
      obtain ⟨ACC, hACC⟩ : ∃ ACC, ACC = shadeL l0_1 l1_1 low up := ⟨_, rfl⟩
      rw [← hACC] at BB
      have HACC := zK hACC; clear hACC SHL
      have HAL := zK (show ACC.length = 64 by rw [HACC.out]; unfold shadeL; rw [foldS_length, foldM_length, List.length_replicate])
      go_wp2_with (first
       | (go_at_call 89; refine (exact_Fits gK 0 SK _ 128 (accCells [SK]) BK.out (accCells_at [SK] 0 (by simp))).mono ?_; rintro e w' ⟨rfl, ⟨nd, rfl⟩⟩; rw [← HN0.out, ← HD0.out])
       | ((with_reducible refine gate_dst (N := 20) rfl ?_); refine box_event ?hg (N := 20) ?hd (cs := #[.int .i64 0, .slice none 0 0]) (t := 62) ?hr ?_; (case hd => rfl); (case hg => rfl); (case hr => first | (go_simp; done) | (go_simp; rfl)); intro gO hg_ w8 hbox_ hb_; have EO := zK hg_; have BO0 := zK hbox_; have HB8 := zK hb_; clear hg_ hbox_ hb_; have hz0 : w8.cell? ⟨gO, 0, none⟩ = some (.int .i64 0) := (blk_cell BO0.out 0).trans rfl; have hz1 : w8.cell? ⟨gO, 1, none⟩ = some (.slice none 0 0) := (blk_cell BO0.out 1).trans rfl; have fz0 := blk_frozen BO0.out 0; have fz1 := blk_frozen BO0.out 1; have NBO := zK (show gB ≠ gO by have h_ := EO.out; have := blk_lt BB.out; simp at h_; omega); have NRO := zK (show gR ≠ gO by have h_ := EO.out; have := blk_lt BR.out; simp at h_; omega); have GO := zK (show w.heap.size ≤ gO by have h_ := EO.out; have := HB.out.size; simp at h_; omega)))
      go_loopg [19, 83] 64 (fun gk v19 v83 w' => ∃ (b : Bool) (x : Int) (u : Value), v19 = .bool b ∧ v83 = .int .i64 x ∧ Aside0 (∃ i : Nat, x = i ∧ i + gk = 64 ∧ b = sumOk ACC D0 i ∧ Kd.R k68 68 w' w.heap.size (fun _ => True) u (sumOut ACC i)) ∧ Aside0 (w'.heap[gB]? = some (.cells (accCells ACC) 139 (0, 0))) ∧ Aside0 (w'.heap[gO]? = some (.cells #[.int .i64 N0, u] 62 (0, 0))) ∧ Aside0 (w'.heap[gR]? = some (.cells #[.int .i64 0, .slice none 0 0] 62 (0, 0))) ∧ Aside0 (Below w.heap.size w w'))
      case atStart =>
       refine ⟨D0, 0, .slice none 0 0, rfl, rfl, ⟨0, rfl, rfl, by simp [sumOk], ?_⟩, ⟨?_⟩, ⟨?_⟩, ⟨?_⟩, ⟨?_⟩⟩
       ·exact Kd.R_nil _ _ _ _ _
       ·exact blk_far (blk_far (blk_below (zN BB.out _) HB8.out) (p := ⟨gO, 0, none⟩) NBO.out (.int .i64 N0)) (p := ⟨gO, 1, none⟩) NBO.out (.slice none 0 0)
       ·exact blk_put (cs' := #[.int .i64 N0, .slice none 0 0]) (blk_put (cs' := #[.int .i64 N0, .slice none 0 0]) BO0.out 0 _ rfl) 1 _ rfl
       ·exact blk_far (blk_far (blk_below (zN BR.out _) HB8.out) (p := ⟨gO, 0, none⟩) NRO.out (.int .i64 N0)) (p := ⟨gO, 1, none⟩) NRO.out (.slice none 0 0)
       ·exact yS (yS (below_step (yN HB.out _) HB8.out) GO.out) GO.out
      case round =>
       clear BK BB HB8 BO0 BR BQ HB hz0 hz1 fz0 fz1 EO
       obtain ⟨b, x2, u, rfl, rfl, HX2, BB, BO, BR, HB⟩ := hrel
       obtain ⟨v, hxv, hgv, hbv, hou⟩ := HX2.out; clear HX2
       have HV := zK hxv
       have HGV := zK hgv
       have HBV := zK hbv
       have HO := zK hou; clear hxv hgv hbv hou
       cases gk with
       | zero =>
        have c3 : decide (x2 < 64) = false := decide_eq_false (by have := HV.out; have := HGV.out; omega)
        have hv64 : v = 64 := by have := HGV.out; omega
        obtain ⟨Ao, co, eo⟩ := Kd.R_slice HO.out
        subst eo
        have ho0 : wr.cell? ⟨gO, 0, none⟩ = some (.int .i64 N0) := (blk_cell BO.out 0).trans rfl
        have ho1 : wr.cell? ⟨gO, 1, none⟩ = some (.slice Ao (sumOut ACC v).length co) := (blk_cell BO.out 1).trans rfl
        have hq0 : wr.cell? ⟨gR, 0, none⟩ = some (.int .i64 0) := (blk_cell BR.out 0).trans rfl
        have hq1 : wr.cell? ⟨gR, 1, none⟩ = some (.slice none 0 0) := (blk_cell BR.out 1).trans rfl
        have fq0 := blk_frozen BR.out 0
        have fq1 := blk_frozen BR.out 1
        have n1 := NRO.out
        have n2 := Ne.symm NRO.out
        have HV6 := zK hv64; clear hv64
        go_wp2
        refine bodyPost_ret (results_ct rfl _ _ gR 62 #[.int .i64 N0, .slice Ao (sumOut ACC v).length co] (0, 0) _ rfl (blk_put (cs' := #[.int .i64 N0, .slice Ao (sumOut ACC v).length co]) (blk_put (cs' := #[.int .i64 N0, .slice none 0 0]) BR.out 0 _ rfl) 1 _ rfl) Try.underlying62 rfl (by kernel_rfl)) rfl ?_
        refine ⟨.slice Ao (sumOut ACC v).length co, by rw [← HACC.out, HBV.out, HV6.out]; rfl, ?_, yS (yS HB.out GR.out) GR.out⟩
        rw [← HACC.out, show sumOut ACC 64 = sumOut ACC v by rw [HV6.out]]
        exact Kd.R_mono (Kd.R_far (p := ⟨gR, 1, none⟩) (Kd.R_far (p := ⟨gR, 0, none⟩) (Kd.R_types HO.out BR.out (by decide)) (fun _ hk => hk.2) (.int .i64 N0)) (fun _ hk => hk.2) (.slice Ao (sumOut ACC v).length co)) (fun _ hk => trivial)
       | succ gkv =>
        have p3 : 0 ≤ x2 := by have := HV.out; omega
        have q3 : x2 < 64 := by have := HV.out; have := HGV.out; omega
        have c3 : decide (x2 < 64) = true := decide_eq_true q3
        have HP3 := zK (And.intro p3 q3)
        have HVX := zK (show x2.toNat = v by have := HV.out; omega)
        obtain ⟨M1, hM1⟩ : ∃ M1, M1 = (fit192 (ACC.getD v 0)).1 := ⟨_, rfl⟩
        obtain ⟨M2, hM2⟩ : ∃ M2, M2 = (fit192 (ACC.getD v 0)).2 := ⟨_, rfl⟩
        have HM1 := zK hM1
        have HM2 := zK hM2; clear hM1 hM2
        have HS1 := zK (show sumOk ACC D0 (v + 1) = (b && M2) by rw [sumOk_succ, ← HBV.out, ← HM2.out])
        have HS2 := zK (show sumOut ACC (v + 1) = sumOut ACC v ++ (if M1 = 0 then [] else [⟨x2, M1⟩]) by rw [sumOut_succ, ← HM1.out, HV.out])
        have CF := zK (show ∀ W : World, W.heap[gB]? = some (.cells (accCells ACC) 139 (0, 0)) → Calls Try.prog 89 #[.pointer (some ⟨gB, x2.toNat * 3, none⟩)] W fun e W' => e = .returned (.tuple #[.int .i64 M1, .bool M2]) ∧ Drawn0 W W' by
         intro W h_
         have h3 := accCells_at ACC v (by rw [HAL.out]; have := HGV.out; omega)
         rw [Nat.mul_comm, ← HVX.out] at h3
         rw [HM1.out, HM2.out, ← HVX.out]
         exact exact_Fits gB (x2.toNat * 3) _ W _ _ h_ h3)
        have ho0 : wr.cell? ⟨gO, 0, none⟩ = some (.int .i64 N0) := (blk_cell BO.out 0).trans rfl
        have ho1 : wr.cell? ⟨gO, 1, none⟩ = some u := (blk_cell BO.out 1).trans rfl
        by_cases hm : M1 = 0
        ·have m1 : (M1 == 0) = true := beq_iff_eq.2 hm
         have m2 : (M1 != 0) = false := bne_eq_false_iff_eq.2 hm
         have HMZ := zK hm; clear hm
         cases b
         all_goals
          go_wp2_with (first | (go_at_call 89; refine (CF.out _ BB.out).mono ?_; rintro e w' ⟨rfl, ⟨nd, rfl⟩⟩))
          go_roundg gkv
          case measure => omega
          case rel =>
           refine ⟨_, _, u, (by first | rfl | (simp; done) | (simp [*]; done)), (by first | rfl | (simp; done) | (simp [*]; done)), ⟨v + 1, ?_, by have := HGV.out; omega, ?_, ?_⟩, ⟨zN BB.out _⟩, ⟨zN BO.out _⟩, ⟨zN BR.out _⟩, ⟨yN HB.out _⟩⟩
           ·have := HV.out; have := HP3.out; first | omega | (unfold wrap64; omega)
           ·rw [HS1.out]; simp
           ·rw [HS2.out, if_pos HMZ.out, List.append_nil]; exact Kd.R_drewN HO.out _
        ·have m1 : (M1 == 0) = false := beq_eq_false_iff_ne.2 hm
         have m2 : (M1 != 0) = true := bne_iff_ne.2 hm
         have HMZ := zK hm; clear hm
         obtain ⟨Y, hY⟩ : ∃ Y : List S68, Y = sumOut ACC v ++ [⟨x2, M1⟩] := ⟨_, rfl⟩
         have NY := zK hY; clear hY
         cases b
         all_goals
          go_wp2_with (first
           | (go_at_call 89; refine (CF.out _ BB.out).mono ?_; rintro e w' ⟨rfl, ⟨nd, rfl⟩⟩)
           | ((with_reducible refine gate_builtin (b := .append) (xs := #[.tmp 99, .tmp 103]) rfl ?_); at_builtin; refine Kd.R_append k68 (w0 := w) w.heap.size rfl (.tmp 99) (.tmp 103) 60 68 (.agg #[(.int .i64 0), (.int .i64 0)]) 16 rfl Try.underlying60 info68 rfl (by decide) (by omega) u (sumOut ACC v) (⟨x2, M1⟩ : S68) [.int .i64 x2, .int .i64 M1] (fun _ => True) (fun _ => False) rfl rfl ?aP (fun _ hk => hk.elim) ?aF ?aO ?aB ?aS ?aL ?_; (case aP => exact k68_mkM _ _ _ (⟨x2, M1⟩ : S68)); (case aB => exact yN HB.out _); (case aF => exact (fun _ _ => trivial)); (case aO => exact Kd.R_drewN HO.out _); (case aS => exact HB.out.size); (case aL => have h1_ := sumOut_length ACC v; have := HGV.out; omega); intro v1 w9 ho_ hb_ hg_ hat_; have BB9 := zK (blk_grown (g := gB) (zN BB.out nd) hg_ (Kd.R_ne HO.out BB.out (by decide))); have BO9 := zK (blk_grown (g := gO) (zN BO.out nd) hg_ (Kd.R_ne HO.out BO.out (by decide))); have BR9 := zK (blk_grown (g := gR) (zN BR.out nd) hg_ (Kd.R_ne HO.out BR.out (by decide))); rw [← NY.out] at ho_; have HB9 := zK hb_; have HO9 := zK ho_; clear ho_ hb_ hg_ hat_ ho0 ho1; obtain ⟨Ao, co, eo⟩ := Kd.R_slice HO9.out; subst eo; have ho0 : w9.cell? ⟨gO, 0, none⟩ = some (.int .i64 N0) := (blk_cell BO9.out 0).trans rfl; have ho1 : w9.cell? ⟨gO, 1, none⟩ = some u := (blk_cell BO9.out 1).trans rfl; have fo0 := blk_frozen BO9.out 0; have fo1 := blk_frozen BO9.out 1))
          go_roundg gkv
          case measure => omega
          case rel =>
           refine ⟨_, _, _, (by first | rfl | (simp; done) | (simp [*]; done)), (by first | rfl | (simp; done) | (simp [*]; done)), ⟨v + 1, ?_, by have := HGV.out; omega, ?_, ?_⟩, ⟨blk_far BB9.out (p := ⟨gO, 1, none⟩) NBO.out _⟩, ⟨blk_put (cs' := #[.int .i64 N0, .slice Ao Y.length co]) BO9.out 1 _ rfl⟩, ⟨blk_far BR9.out (p := ⟨gO, 1, none⟩) NRO.out _⟩, ⟨yS HB9.out GO.out⟩⟩
           ·have := HV.out; have := HP3.out; first | omega | (unfold wrap64; omega)
           ·rw [HS1.out]; simp
           ·rw [HS2.out, if_neg HMZ.out, ← NY.out]
            exact Kd.R_mono (Kd.R_far (p := ⟨gO, 1, none⟩) (Kd.R_types HO9.out BO9.out (by decide)) (fun _ hk => hk.2) _) (fun _ hk => trivial)
     | succ gki =>
      have p2 : 0 ≤ y := by have := HJ.out; omega
      have q2 : y < (l1_1.length : Int) := by have := HJ.out; have := HGM.out; omega
      obtain ⟨XM, hXM⟩ : ∃ XM, XM = rd_T68 l1_1 y := ⟨_, rfl⟩
      have HXM := zK (show j < l1_1.length ∧ ∀ h : j < l1_1.length, XM = l1_1[j] by
       have := HJ.out; have := HGM.out
       refine ⟨by omega, fun h => ?_⟩
       rw [hXM, HJ.out]; simp [rd_T68, h])
      have HGM2 := zK (show goodM XM = true by rw [HXM.out.2 HXM.out.1]; exact List.all_eq_true.1 RG.out.2.2.2.2.2 _ (List.getElem_mem _))
      obtain ⟨ad2, e2, hm0, hm1⟩ := at_T68 HR1.out y p2 q2
      rw [← hXM] at hm0 hm1; clear hXM
      cases e2
      replace hm0 := (HB.out.cell (World.block_lt_of_cell? w _ hm0)).trans hm0
      replace hm1 := (HB.out.cell (World.block_lt_of_cell? w _ hm1)).trans hm1
      have c2 : decide (y < (l1_1.length : Int)) = true := decide_eq_true q2
      replace p2 := eq_true p2
      replace q2 := eq_true q2
      go_wp2_with (first
       | ((with_reducible refine gate_dst (N := 17) rfl ?_); refine box_event ?hg (N := 17) ?hd (cs := #[.int .i64 0, .int .i64 0]) (t := 68) ?hr ?_; (case hd => rfl); (case hg => rfl); (case hr => first | (go_simp; done) | (go_simp; rfl)); intro gM hg_ wm hbox_ hb_; have EM := zK hg_; have BM0 := zK hbox_; have HB6 := zK hb_; clear hg_ hbox_ hb_; have hz0 : wm.cell? ⟨gM, 0, none⟩ = some (.int .i64 0) := (blk_cell BM0.out 0).trans rfl; have hz1 : wm.cell? ⟨gM, 1, none⟩ = some (.int .i64 0) := (blk_cell BM0.out 1).trans rfl; have fz0 := blk_frozen BM0.out 0; have fz1 := blk_frozen BM0.out 1))
      have hv := HGM2.out
      unfold goodM at hv
      rw [Bool.and_eq_true, Bool.and_eq_true] at hv
      have RM := zK (in64_iff hv.2)
      have v0 : 0 ≤ XM.f0 := of_decide_eq_true hv.1.1
      have v1 : XM.f0 < 64 := of_decide_eq_true hv.1.2; clear hv
      have HV := zK (And.intro v0 v1)
      have NKM := zK (show gK ≠ gM by have := EM.out; have := blk_lt BK.out; omega)
      have NBM := zK (show gB ≠ gM by have := EM.out; have := blk_lt BB.out; omega)
      have NRM := zK (show gR ≠ gM by have := EM.out; have := blk_lt BR.out; omega)
      have NQM := zK (show gQ ≠ gM by have := EM.out; have := blk_lt BQ.out; omega)
      have GM := zK (show w.heap.size ≤ gM by have := EM.out; have := HB.out.size; omega)
      have HAL := zK (show XM.f0.toNat < ((l1_1.take j).foldl (subM low) (l0_1.foldl (addM up) (List.replicate 64 0))).length by rw [foldS_length, foldM_length, List.length_replicate]; have := HV.out; omega)
      have HME := zK (show ((l1_1.take (j + 1)).foldl (subM low) (l0_1.foldl (addM up) (List.replicate 64 0))) = subM low ((l1_1.take j).foldl (subM low) (l0_1.foldl (addM up) (List.replicate 64 0))) XM by
       have e_ := HXM.out.2 HXM.out.1
       rw [List.take_succ_eq_append_getElem HXM.out.1, List.foldl_append, ← e_]; rfl)
      go_region_with (go_at_call 101; refine (exact_Sub gB (XM.f0.toNat * 3) (((l1_1.take j).foldl (subM low) (l0_1.foldl (addM up) (List.replicate 64 0))).getD XM.f0.toNat 0) XM.f1 low _ 139 (accCells ((l1_1.take j).foldl (subM low) (l0_1.foldl (addM up) (List.replicate 64 0)))) RM.out.1 RM.out.2 (in64_iff RG.out.2.2.1).1 (in64_iff RG.out.2.2.1).2 ?rb ?rc).mono ?_; (case rb => exact zD (blk_far (blk_far (blk_below BB.out HB6.out) (p := ⟨gM, 0, none⟩) NBM.out (.int .i64 XM.f0)) (p := ⟨gM, 1, none⟩) NBM.out (.int .i64 XM.f1))); (case rc => have h_ := accCells_at _ _ HAL.out; rw [Nat.mul_comm] at h_; exact h_); rintro e w7 ⟨rfl, hk_, hs_⟩; have BB7 := zK (hk_.trans (congrArg (fun z => some (Obj.cells z 139 (0, 0))) (show _ = accCells ((l1_1.take (j + 1)).foldl (subM low) (l0_1.foldl (addM up) (List.replicate 64 0))) by rw [HME.out, Nat.mul_comm XM.f0.toNat 3, accCells_put _ _ _ HAL.out]; rfl))); have BK7 := zK ((hs_.block gK NKB.out).trans (zD (blk_far (blk_far (blk_below BK.out HB6.out) (p := ⟨gM, 0, none⟩) NKM.out (.int .i64 XM.f0)) (p := ⟨gM, 1, none⟩) NKM.out (.int .i64 XM.f1)))); have BQ7 := zK ((hs_.block gQ NQB.out).trans (zD (blk_far (blk_far (blk_below BQ.out HB6.out) (p := ⟨gM, 0, none⟩) NQM.out (.int .i64 XM.f0)) (p := ⟨gM, 1, none⟩) NQM.out (.int .i64 XM.f1)))); have BR7 := zK ((hs_.block gR NRB.out).trans (zD (blk_far (blk_far (blk_below BR.out HB6.out) (p := ⟨gM, 0, none⟩) NRM.out (.int .i64 XM.f0)) (p := ⟨gM, 1, none⟩) NRM.out (.int .i64 XM.f1)))); have HB7 := zK (Below.trans (yD (yS (yS (below_step HB.out HB6.out) GM.out) GM.out)) (hs_.below GB.out)))
      all_goals
       go_wp2
       go_roundg gki
       case measure => omega
       case rel =>
        refine ⟨wrap64 (y + 1), (by first | rfl | (simp; done) | (simp [*]; done)), ⟨j + 1, ?_, by have := HGM.out; omega, BB7.out⟩, ⟨BK7.out⟩, ⟨BQ7.out⟩, ⟨BR7.out⟩, ⟨HB7.out⟩⟩
        have := HJ.out; have := HXM.out.1; have := HR1.out.2.1; unfold wrap64; omega
   | succ gki =>
    have p2 : 0 ≤ y := by have := HJ.out; omega
    have q2 : y < (l0_1.length : Int) := by have := HJ.out; have := HGM.out; omega
    obtain ⟨XM, hXM⟩ : ∃ XM, XM = rd_T68 l0_1 y := ⟨_, rfl⟩
    have HXM := zK (show j < l0_1.length ∧ ∀ h : j < l0_1.length, XM = l0_1[j] by
     have := HJ.out; have := HGM.out
     refine ⟨by omega, fun h => ?_⟩
     rw [hXM, HJ.out]; simp [rd_T68, h])
    have HGM2 := zK (show goodM XM = true by rw [HXM.out.2 HXM.out.1]; exact List.all_eq_true.1 RG.out.2.2.2.2.1 _ (List.getElem_mem _))
    obtain ⟨ad2, e2, hm0, hm1⟩ := at_T68 HR0.out y p2 q2
    rw [← hXM] at hm0 hm1; clear hXM
    cases e2
    replace hm0 := (HB.out.cell (World.block_lt_of_cell? w _ hm0)).trans hm0
    replace hm1 := (HB.out.cell (World.block_lt_of_cell? w _ hm1)).trans hm1
    have c2 : decide (y < (l0_1.length : Int)) = true := decide_eq_true q2
    replace p2 := eq_true p2
    replace q2 := eq_true q2
    go_wp2_with (first
     | ((with_reducible refine gate_dst (N := 15) rfl ?_); refine box_event ?hg (N := 15) ?hd (cs := #[.int .i64 0, .int .i64 0]) (t := 68) ?hr ?_; (case hd => rfl); (case hg => rfl); (case hr => first | (go_simp; done) | (go_simp; rfl)); intro gM hg_ wm hbox_ hb_; have EM := zK hg_; have BM0 := zK hbox_; have HB6 := zK hb_; clear hg_ hbox_ hb_; have hz0 : wm.cell? ⟨gM, 0, none⟩ = some (.int .i64 0) := (blk_cell BM0.out 0).trans rfl; have hz1 : wm.cell? ⟨gM, 1, none⟩ = some (.int .i64 0) := (blk_cell BM0.out 1).trans rfl; have fz0 := blk_frozen BM0.out 0; have fz1 := blk_frozen BM0.out 1))
    have hv := HGM2.out
    unfold goodM at hv
    rw [Bool.and_eq_true, Bool.and_eq_true] at hv
    have RM := zK (in64_iff hv.2)
    have v0 : 0 ≤ XM.f0 := of_decide_eq_true hv.1.1
    have v1 : XM.f0 < 64 := of_decide_eq_true hv.1.2; clear hv
    have HV := zK (And.intro v0 v1)
    have NKM := zK (show gK ≠ gM by have := EM.out; have := blk_lt BK.out; omega)
    have NBM := zK (show gB ≠ gM by have := EM.out; have := blk_lt BB.out; omega)
    have NRM := zK (show gR ≠ gM by have := EM.out; have := blk_lt BR.out; omega)
    have NQM := zK (show gQ ≠ gM by have := EM.out; have := blk_lt BQ.out; omega)
    have GM := zK (show w.heap.size ≤ gM by have := EM.out; have := HB.out.size; omega)
    have HAL := zK (show XM.f0.toNat < ((l0_1.take j).foldl (addM up) (List.replicate 64 0)).length by rw [foldM_length, List.length_replicate]; have := HV.out; omega)
    have HME := zK (show ((l0_1.take (j + 1)).foldl (addM up) (List.replicate 64 0)) = addM up ((l0_1.take j).foldl (addM up) (List.replicate 64 0)) XM by
     have e_ := HXM.out.2 HXM.out.1
     rw [List.take_succ_eq_append_getElem HXM.out.1, List.foldl_append, ← e_]; rfl)
    go_region_with (go_at_call 88; refine (exact_Add gB (XM.f0.toNat * 3) (((l0_1.take j).foldl (addM up) (List.replicate 64 0)).getD XM.f0.toNat 0) XM.f1 up _ 139 (accCells ((l0_1.take j).foldl (addM up) (List.replicate 64 0))) RM.out.1 RM.out.2 (in64_iff RG.out.2.2.2.1).1 (in64_iff RG.out.2.2.2.1).2 ?rb ?rc).mono ?_; (case rb => exact zD (blk_far (blk_far (blk_below BB.out HB6.out) (p := ⟨gM, 0, none⟩) NBM.out (.int .i64 XM.f0)) (p := ⟨gM, 1, none⟩) NBM.out (.int .i64 XM.f1))); (case rc => have h_ := accCells_at _ _ HAL.out; rw [Nat.mul_comm] at h_; exact h_); rintro e w7 ⟨rfl, hk_, hs_⟩; have BB7 := zK (hk_.trans (congrArg (fun z => some (Obj.cells z 139 (0, 0))) (show _ = accCells ((l0_1.take (j + 1)).foldl (addM up) (List.replicate 64 0)) by rw [HME.out, Nat.mul_comm XM.f0.toNat 3, accCells_put _ _ _ HAL.out]; rfl))); have BK7 := zK ((hs_.block gK NKB.out).trans (zD (blk_far (blk_far (blk_below BK.out HB6.out) (p := ⟨gM, 0, none⟩) NKM.out (.int .i64 XM.f0)) (p := ⟨gM, 1, none⟩) NKM.out (.int .i64 XM.f1)))); have BQ7 := zK ((hs_.block gQ NQB.out).trans (zD (blk_far (blk_far (blk_below BQ.out HB6.out) (p := ⟨gM, 0, none⟩) NQM.out (.int .i64 XM.f0)) (p := ⟨gM, 1, none⟩) NQM.out (.int .i64 XM.f1)))); have BR7 := zK ((hs_.block gR NRB.out).trans (zD (blk_far (blk_far (blk_below BR.out HB6.out) (p := ⟨gM, 0, none⟩) NRM.out (.int .i64 XM.f0)) (p := ⟨gM, 1, none⟩) NRM.out (.int .i64 XM.f1)))); have HB7 := zK (Below.trans (yD (yS (yS (below_step HB.out HB6.out) GM.out) GM.out)) (hs_.below GB.out)))
    all_goals
     go_wp2
     go_roundg gki
     case measure => omega
     case rel =>
      refine ⟨wrap64 (y + 1), (by first | rfl | (simp; done) | (simp [*]; done)), ⟨j + 1, ?_, by have := HGM.out; omega, BB7.out⟩, ⟨BK7.out⟩, ⟨BQ7.out⟩, ⟨BR7.out⟩, ⟨HB7.out⟩⟩
      have := HJ.out; have := HXM.out.1; have := HR0.out.2.1; unfold wrap64; omega
theorem shadow_shade.calls (k : Nat) (a0_0 : Int) (A0_1 : Option Addr) (c0_1 : Nat) (l0_1 : List S68) (a1_0 : Int) (A1_1 : Option Addr) (c1_1 : Nat) (l1_1 : List S68) (a2 : Int) (a3 : Bool) (r1 : Int) (r2 : List S68) (r3 : Bool) (w : World)
  (hr0_1 : Kd.C k68 w A0_1 l0_1.length l0_1) (hc0_1 : l0_1.length ≤ c0_1) (hr1_1 : Kd.C k68 w A1_1 l1_1.length l1_1) (hc1_1 : l1_1.length ≤ c1_1) (h : shadow_shade.f k a0_0 l0_1 a1_0 l1_1 a2 a3 = some (r1, r2, r3)) :
  Calls Try.prog 77 #[.agg #[.int .i64 a0_0, .slice A0_1 l0_1.length c0_1], .agg #[.int .i64 a1_0, .slice A1_1 l1_1.length c1_1], .int .i64 a2, .bool a3] w fun e w' => ∃ v1_ : Value, e = .returned (.tuple #[.agg #[.int .i64 r1, v1_], .bool r3]) ∧ Kd.R k68 68 w' w.heap.size (fun _ => True) v1_ r2 ∧ Below w.heap.size w w' := by
 unfold shadow_shade.f at h
 obtain ⟨low, hlow, h⟩ := Option.bind_eq_some_iff.mp h
 obtain ⟨up, hup, h⟩ := Option.bind_eq_some_iff.mp h
 split at h
 ·rename_i hc
  simp only [Bool.and_eq_true] at hc
  obtain ⟨⟨⟨⟨⟨q1, q2⟩, q3⟩, q4⟩, q5⟩, q6⟩ := hc
  simp only [Option.some.injEq, Prod.mk.injEq] at h
  obtain ⟨rfl, rfl, rfl⟩ := h
  exact shade_walk k a0_0 A0_1 c0_1 l0_1 a1_0 A1_1 c1_1 l1_1 a2 a3 low up _ _ w hr0_1 hc0_1 hr1_1 hc1_1 hlow hup ⟨q1, q2, q3, q4, q5, q6⟩ rfl rfl
 ·cases h

end Go.Proofs.Ytkfbfgkdabljiaa.PShadowSplits
