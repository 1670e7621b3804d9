/- The real shadow, the dark one, and whether they are one, or the error, is what the reference says: for every inequalities and variable (asked of at most 70, of 70 monomials each). -/
import Derived.Test.YtkfbfgkdabljiaaPShadowCastsx
import Derived.Laws.BitsAllLaws
import Derived.Deep.Slices
import Derived.ChangeSame
import Derived.KernelRfl
import Derived.OpenShut
namespace Go.Proofs.Ytkfbfgkdabljiaa.Pure
open Go.RowKit Go.Proofs.Ytkfbfgkdabljiaa.PShadowCasts Go.Proofs.YtkfbfgkdabljiaaW.PrintWords Go.Proofs.YtkfbfgkdabljiaaW.PrintLast
set_option linter.unusedVariables false
set_option linter.unusedSimpArgs false
/-- A number, if it fits. -/
def fitI (n : Int) : Int × Bool := if -9223372036854775808 ≤ n ∧ n ≤ 9223372036854775807 then (n, true) else (0, false)
theorem abs_mul_lt {a b : Int} (h1 : -9223372036854775808 ≤ a) (h2 : a ≤ 9223372036854775807) (h3 : -9223372036854775808 ≤ b) (h4 : b ≤ 9223372036854775807) : a.natAbs * b.natAbs ≤ 85070591730234615865843651857942052864 :=
  Nat.le_trans (Nat.mul_le_mul (show a.natAbs ≤ 9223372036854775808 by omega) (show b.natAbs ≤ 9223372036854775808 by omega)) (by decide)
-- one round of the halving: x odd, y = 2^t * z, z odd
theorem u64w (n : Int) : IntKind.u64.wrap n = n % 18446744073709551616 := by
  simp [IntKind.wrap, IntKind.bits, IntKind.signed]
theorem wf64 {a : Int} (h : (Lit.int .i64 a).wf = true) : -9223372036854775808 ≤ a ∧ a ≤ 9223372036854775807 := by
  simpa [Lit.wf, IntKind.min, IntKind.max, IntKind.signed, IntKind.bits] using h
theorem w64 {n : Int} (h1 : -9223372036854775808 ≤ n) (h2 : n ≤ 9223372036854775807) : wrap64 n = n := by
  unfold wrap64; omega
theorem rd_at (l : List Int) (i : Nat) (h : i < l.length) : rd l (i:Int) = l[i] := by
  simp [rd, h]
/-- At all great fuels the same answer. -/
def Ev {α : Type} (f : Nat → Option α) (v : α) : Prop := ∃ K, ∀ k, K ≤ k → f k = some v
theorem Ev.now {α : Type} {f : Nat → Option α} {v : α} (h : ∀ k, f k = some v) : Ev f v := ⟨0, fun k _ => h k⟩
theorem Ev.succ {α : Type} {f : Nat → Option α} {v : α} (h : Ev (fun k => f (k + 1)) v) : Ev f v := by
  obtain ⟨K, h⟩ := h
  refine ⟨K + 1, fun k hk => ?_⟩
  obtain ⟨m, rfl⟩ : ∃ m, k = m + 1 := ⟨k - 1, by omega⟩
  exact h m (by omega)
theorem Ev.bind {α β : Type} {f : Nat → Option α} {g : Nat → α → Option β} {v : α} {u : β} (h : Ev f v) (h2 : Ev (fun k => g k v) u) : Ev (fun k => (f k).bind (g k)) u := by
  obtain ⟨K, h⟩ := h
  obtain ⟨K2, h2⟩ := h2
  refine ⟨max K K2, fun k hk => ?_⟩
  show (f k).bind (g k) = some u
  rw [h k (by omega)]
  exact h2 k (by omega)
theorem Ev.of {α : Type} {f g : Nat → Option α} {v : α} (h : Ev f v) (e : ∀ k, g k = f k) : Ev g v := by
  obtain ⟨K, h⟩ := h
  exact ⟨K, fun k hk => (e k).trans (h k hk)⟩
theorem Ev.at_ {α : Type} {f : Nat → Option α} {v : α} (h : Ev f v) : ∃ k, f k = some v := by
  obtain ⟨K, h⟩ := h
  exact ⟨K, h K (Nat.le_refl _)⟩
theorem Ev.mono {α : Type} {f : Nat → Option α} {v : α} (K : Nat) (hm : ∀ k, LeO (f k) (f (k + 1))) (h : f K = some v) : Ev f v := by
  refine ⟨K, fun k hk => ?_⟩
  obtain ⟨d, rfl⟩ := Nat.exists_eq_add_of_le hk
  induction d with
  | zero => exact h
  | succ d ih => exact hm (K + d) v (ih (by omega))
theorem Ev.val {α : Type} {f : Nat → Option α} {v u : α} (h : Ev f v) (e : v = u) : Ev f u := e ▸ h
theorem Ev.pos {α : Type} {c : Prop} [Decidable c] {f g : Nat → Option α} {v : α} (h : c) (hf : Ev f v) : Ev (fun k => if c then f k else g k) v := hf.of fun k => if_pos h
theorem Ev.neg {α : Type} {c : Prop} [Decidable c] {f g : Nat → Option α} {v : α} (h : ¬ c) (hf : Ev g v) : Ev (fun k => if c then f k else g k) v := hf.of fun k => if_neg h
theorem rdM_at (l : List S68) (i : Nat) (h : i < l.length) : rd_T68 l (i:Int) = l[i] := by simp [rd_T68, h]
theorem rdI_at (l : List S70) (i : Nat) (h : i < l.length) : rd_T70 l (i:Int) = l[i] := by simp [rd_T70, h]
/-- Are the variables in order, of the 64, and no factor zero? -/
def rightL : Int → List S68 → Bool
  | _, [] => true
  | last, m :: l => decide (last < m.f0) && decide (m.f0 < 64) && decide (m.f1 ≠ 0) && rightL m.f0 l
theorem Right_l0 (l : List S68) (hl : l.length ≤ 9223372036854775807) : ∀ (d i : Nat) (last : Int), l.length - i = d → i ≤ l.length →
    Ev (fun k => lin_Right.l0 k last l (l.length:Int) i) (if rightL last (l.drop i) = true then 0 else 1) := by
  intro d
  induction d with
  | zero =>
    intro i last h1 h2
    refine Ev.succ (Ev.now fun k => ?_)
    simp only [lin_Right.l0]
    rw [if_neg (by omega), List.drop_eq_nil_of_le (by omega)]; rfl
  | succ d ih =>
    intro i last h1 h2
    have hi : i < l.length := by omega
    rw [List.drop_eq_getElem_cons hi]
    by_cases e : last < l[i].f0 ∧ l[i].f0 < 64 ∧ l[i].f1 ≠ 0
    · obtain ⟨e1, e2, e3⟩ := e
      refine Ev.succ (Ev.of (ih (i+1) l[i].f0 (by omega) (by omega)) fun k => ?_) |>.val ?_
      · simp only [lin_Right.l0]
        rw [if_pos (by omega), if_pos (by omega), if_pos (by omega), rdM_at l i hi, if_neg (by omega), if_neg (by omega), if_neg e3, w64 (by omega) (by omega)]; rfl
      · simp only [rightL, decide_eq_true e1, decide_eq_true e2, decide_eq_true e3, Bool.true_and]
    · refine Ev.succ (Ev.now fun k => ?_)
      have hr : rightL last (l[i] :: l.drop (i+1)) = false := by
        simp only [rightL, Bool.and_eq_false_iff, decide_eq_false_iff_not]
        omega
      rw [hr]
      simp only [lin_Right.l0]
      rw [if_pos (by omega), if_pos (by omega), if_pos (by omega), rdM_at l i hi]
      by_cases e1 : l[i].f0 ≤ last
      · rw [if_pos e1]; rfl
      by_cases e2 : l[i].f0 ≥ 64
      · rw [if_neg e1, if_pos e2]; rfl
      · rw [if_neg e1, if_neg e2, if_pos (by omega)]; rfl
theorem Right_ev (K : Int) (l : List S68) (hl : l.length ≤ 9223372036854775807) : Ev (fun k => lin_Right.f k K l) (if rightL (-1) l = true then 0 else 1) := by
  have := Right_l0 l hl _ 0 (-1) rfl (by omega)
  exact this
theorem iRight_ev (K : Int) (l : List S68) (b : Bool) (hl : l.length ≤ 9223372036854775807) : Ev (fun k => ineq_Right.f k K l b) (if rightL (-1) l = true then 0 else 1) :=
  Ev.bind (Right_ev K l hl) (Ev.now fun _ => rfl)
theorem rightL_mem : ∀ (l : List S68) (last : Int), rightL last l = true → ∀ m ∈ l, last < m.f0 ∧ m.f0 < 64 ∧ m.f1 ≠ 0 := by
  intro l
  induction l with
  | nil => intro last _ m hm; cases hm
  | cons a l ih =>
    intro last h m hm
    simp only [rightL, Bool.and_eq_true, decide_eq_true_eq] at h
    rcases List.mem_cons.1 hm with e | e
    · subst e; exact ⟨h.1.1.1, h.1.1.2, h.1.2⟩
    · have := ih a.f0 h.2 m e; omega
theorem rightL_len : ∀ (l : List S68) (last : Int), last ≤ 63 → rightL last l = true → (l.length : Int) ≤ 63 - last := by
  intro l
  induction l with
  | nil => intro last h _; simp; omega
  | cons a l ih =>
    intro last h0 h
    simp only [rightL, Bool.and_eq_true, decide_eq_true_eq] at h
    have := ih a.f0 (by omega) h.2
    simp only [List.length_cons]; omega
/-- The monomials' ranges. -/
def M64 (l : List S68) : Prop := ∀ m ∈ l, (-9223372036854775808 ≤ m.f0 ∧ m.f0 ≤ 9223372036854775807) ∧ -9223372036854775808 ≤ m.f1 ∧ m.f1 ≤ 9223372036854775807
def R64 (n : Int) : Prop := -9223372036854775808 ≤ n ∧ n ≤ 9223372036854775807
theorem in64_of {n : Int} (h : R64 n) : in64 n = true := by
  simp only [in64, Bool.and_eq_true, decide_eq_true_eq]; exact h
theorem mul_R64 {a b : Int} (ha : R64 a) (hb : R64 b) : -85070591730234615865843651857942052864 ≤ a * b ∧ a * b ≤ 85070591730234615865843651857942052864 := by
  have h := abs_mul_lt ha.1 ha.2 hb.1 hb.2
  rw [← Int.natAbs_mul] at h
  omega
theorem wrap192_id {s : Int} (h1 : -3138550867693340381917894711603833208051177722232017256448 ≤ s) (h2 : s < 3138550867693340381917894711603833208051177722232017256448) : wrap192 s = s := by
  unfold wrap192; omega
instance instR64 (n : Int) : Decidable (R64 n) := inferInstanceAs (Decidable (_ ∧ _))
theorem Far_eq {a : Int} (h1 : -9223372036854775808 ≤ a) (h2 : a ≤ 9223372036854775807) : sequiturref01_Far.f a = some (a.natAbs : Int) := by
  unfold sequiturref01_Far.f
  simp only [u64w]
  split <;> congr 1 <;> omega
/-- The two halves of a number, up to a multiple of 2^128. -/
def hiW (v : Int) : Int := wrap64 (v / 18446744073709551616)
def loW (v : Int) : Int := v % 18446744073709551616
theorem xor_all (x : Int) (h1 : 0 ≤ x) (h2 : x < 18446744073709551616) : Go.bits .xor .u64 18446744073709551615 x = 18446744073709551615 - x := by
  obtain ⟨n, rfl⟩ := Int.eq_ofNat_of_zero_le h1
  refine Eq.trans (u64_xor_nat 18446744073709551615 n (by decide) (by omega)) ?_
  have h : (BitVec.allOnes 64 ^^^ BitVec.ofNat 64 n).toNat = 18446744073709551615 ^^^ n := by
    rw [BitVec.toNat_xor, BitVec.toNat_allOnes, BitVec.toNat_ofNat, Nat.mod_eq_of_lt (by omega)]
  rw [BitVec.allOnes_xor, BitVec.toNat_not, BitVec.toNat_ofNat, Nat.mod_eq_of_lt (by omega)] at h
  omega
theorem Of_eq {a : Int} (h1 : -9223372036854775808 ≤ a) (h2 : a ≤ 9223372036854775807) : sequiturref01_Of.f a = some (hiW a, loW a) := by
  unfold sequiturref01_Of.f hiW loW wrap64
  simp only [u64w]
  split <;> congr 2 <;> omega
theorem Plus_eq (v w : Int) : sequiturref01_Plus.f (hiW v) (loW v) (hiW w) (loW w) = some (hiW (v + w), loW (v + w)) := by
  unfold sequiturref01_Plus.f hiW loW wrap64
  simp only [u64w]
  split <;> congr 2 <;> omega
theorem hiW0 : hiW 0 = 0 := by unfold hiW wrap64; omega
theorem loW0 : loW 0 = 0 := by decide
theorem hiW1 : hiW 1 = 0 := by unfold hiW wrap64; omega
theorem loW1 : loW 1 = 1 := by decide
theorem Minus_eq (v : Int) : sequiturref01_Minus.f (hiW v) (loW v) = some (hiW (-v), loW (-v)) := by
  unfold sequiturref01_Minus.f
  rw [xor_all _ (by unfold loW; omega) (by unfold loW; omega)]
  rw [show wrap64 (-1 - hiW v) = hiW (-1 - v) by unfold hiW wrap64; omega, show 18446744073709551615 - loW v = loW (-1 - v) by unfold loW; omega]
  have := Plus_eq (-1 - v) 1
  rw [hiW1, loW1] at this
  rw [this, show -1 - v + 1 = -v by omega]; rfl
theorem Fits_eq (v : Int) (h1 : -170141183460469231731687303715884105728 ≤ v) (h2 : v < 170141183460469231731687303715884105728) : sequiturref01_Fits.f (hiW v) (loW v) = some (fitI v) := by
  have e : wrap64 (loW v) = if loW v < 9223372036854775808 then loW v else loW v - 18446744073709551616 := by
    have : 0 ≤ loW v ∧ loW v < 18446744073709551616 := by unfold loW; omega
    unfold wrap64; split <;> omega
  have hh : hiW v = v / 18446744073709551616 := by unfold hiW; exact w64 (by omega) (by omega)
  unfold sequiturref01_Fits.f fitI
  rw [e, hh]
  unfold loW
  repeat' split
  all_goals first | omega | (congr 2; omega) | rfl
theorem Times_l0 : ∀ (u : Nat) (x o : Int), u < 18446744073709551616 → ∃ K, ∀ k, K ≤ k → sequiturref01_Times.l0 k u (hiW x) (loW x) (hiW o) (loW o) = some (hiW (o + u * x), loW (o + u * x)) := by
  intro u
  induction u using Nat.strongRecOn with
  | _ u ih =>
    intro x o hu
    by_cases h : u = 0
    · subst h
      refine ⟨1, fun k hk => ?_⟩
      obtain ⟨m, rfl⟩ : ∃ m, k = m + 1 := ⟨k - 1, by omega⟩
      simp only [sequiturref01_Times.l0]
      rw [if_neg (by omega)]; simp
    · have ht : Int.tdiv (u:Int) 2 = ((u / 2 : Nat) : Int) := (Int.ofNat_tdiv u 2).symm
      have hm : Int.tmod (u:Int) 2 = ((u % 2 : Nat) : Int) := (Int.ofNat_tmod u 2).symm
      have hw : IntKind.u64.wrap (Int.tdiv (u:Int) 2) = ((u / 2 : Nat) : Int) := by rw [ht, u64w]; omega
      have hx : ((u / 2 : Nat) : Int) * (x + x) = ((u - u % 2 : Nat) : Int) * x := by
        rw [← Int.two_mul, ← Int.mul_assoc]; congr 1; omega
      by_cases e : u % 2 = 1
      · obtain ⟨K, ev⟩ := ih (u / 2) (by omega) (x + x) (o + x) (by omega)
        refine ⟨K + 1, fun k hk => ?_⟩
        obtain ⟨m, rfl⟩ : ∃ m, k = m + 1 := ⟨k - 1, by omega⟩
        simp only [sequiturref01_Times.l0]
        rw [if_pos (by omega), hm, e, if_pos (by rfl), Plus_eq, Plus_eq]
        simp only [Option.bind_some]
        rw [hw, ev m (by omega), hx, e]
        have : o + x + ((u - 1 : Nat) : Int) * x = o + u * x := by
          have : (u : Int) = ((u - 1 : Nat) : Int) + 1 := by omega
          rw [this, Int.add_mul]; omega
        rw [this]
      · obtain ⟨K, ev⟩ := ih (u / 2) (by omega) (x + x) o (by omega)
        refine ⟨K + 1, fun k hk => ?_⟩
        obtain ⟨m, rfl⟩ : ∃ m, k = m + 1 := ⟨k - 1, by omega⟩
        simp only [sequiturref01_Times.l0]
        rw [if_pos (by omega), hm, if_neg (by omega), Plus_eq]
        simp only [Option.bind_some]
        rw [hw, ev m (by omega), hx, show u % 2 = 0 by omega]; rfl
theorem Times_ev {a b : Int} (h1 : -9223372036854775808 ≤ a) (h2 : a ≤ 9223372036854775807) (h3 : -9223372036854775808 ≤ b) (h4 : b ≤ 9223372036854775807) :
    ∃ K, ∀ k, K ≤ k → sequiturref01_Times.f k a b = some (hiW (a * b), loW (a * b)) := by
  by_cases hb : b < 0
  · obtain ⟨K, ev⟩ := Times_l0 b.natAbs (-a) 0 (by omega)
    refine ⟨K + 1, fun k hk => ?_⟩
    obtain ⟨m, rfl⟩ : ∃ m, k = m + 1 := ⟨k - 1, by omega⟩
    unfold sequiturref01_Times.f
    rw [Of_eq h1 h2]
    simp only [Option.bind_some]
    rw [if_pos hb, Minus_eq]
    simp only [Option.bind_some, sequiturref01_Times.j0]
    rw [Far_eq h3 h4]
    simp only [Option.bind_some]
    have e : (0:Int) + (b.natAbs : Int) * -a = a * b := by
      rw [show (b.natAbs : Int) = -b by omega, Int.neg_mul_neg, Int.mul_comm]; omega
    rw [← e]
    have := ev m (by omega)
    rw [hiW0, loW0] at this
    exact this
  · obtain ⟨K, ev⟩ := Times_l0 b.natAbs a 0 (by omega)
    refine ⟨K + 1, fun k hk => ?_⟩
    obtain ⟨m, rfl⟩ : ∃ m, k = m + 1 := ⟨k - 1, by omega⟩
    unfold sequiturref01_Times.f
    rw [Of_eq h1 h2]
    simp only [Option.bind_some]
    rw [if_neg hb]
    simp only [sequiturref01_Times.j0]
    rw [Far_eq h3 h4]
    simp only [Option.bind_some]
    have e : (0:Int) + (b.natAbs : Int) * a = a * b := by
      rw [show (b.natAbs : Int) = b by omega, Int.mul_comm]; omega
    rw [← e]
    have := ev m (by omega)
    rw [hiW0, loW0] at this
    exact this
/-- How many times a variable stands in a form. -/
def coef : List S68 → Nat → Int
  | [], _ => 0
  | m :: l, v => (if m.f0 = (v : Int) then m.f1 else 0) + coef l v
theorem rightL_vars {l : List S68} (h : rightL (-1) l = true) : ∀ m ∈ l, 0 ≤ m.f0 ∧ m.f0 < 64 := fun m hm => by
  have := rightL_mem l (-1) h m hm; omega
theorem coef_none : ∀ (l : List S68) (last : Int), rightL last l = true → ∀ v : Nat, (v : Int) ≤ last → coef l v = 0 := by
  intro l
  induction l with
  | nil => intro _ _ _ _; rfl
  | cons m l ih =>
    intro last h v hv
    simp only [rightL, Bool.and_eq_true, decide_eq_true_eq] at h
    simp only [coef]
    rw [if_neg (by omega), ih m.f0 h.2 v (by omega)]; rfl
theorem coef_R64 : ∀ (l : List S68) (last : Int), rightL last l = true → M64 l → ∀ v : Nat, R64 (coef l v) := by
  intro l
  induction l with
  | nil => intro _ _ _ _; exact ⟨by simp [coef], by simp [coef]⟩
  | cons m l ih =>
    intro last h hM v
    have hr := h
    simp only [rightL, Bool.and_eq_true, decide_eq_true_eq] at h
    simp only [coef]
    by_cases e : m.f0 = (v : Int)
    · rw [if_pos e, coef_none l m.f0 h.2 v (by omega), Int.add_zero]; exact (hM m (List.mem_cons_self ..)).2
    · rw [if_neg e, Int.zero_add]; exact ih m.f0 h.2 (fun a ha => hM a (List.mem_cons_of_mem _ ha)) v
/-- The form of which the variables stand so many times. -/
def linOf (c : Nat → Int) (n : Nat) : List S68 := (List.range n).filterMap fun i => if c i = 0 then none else some ⟨(i : Int), c i⟩
theorem linOf_succ (c : Nat → Int) (n : Nat) : linOf c (n + 1) = linOf c n ++ (if c n = 0 then [] else [⟨(n : Int), c n⟩]) := by
  unfold linOf
  rw [List.range_succ, List.filterMap_append]
  congr 1
  simp only [List.filterMap_cons, List.filterMap_nil]
  split <;> simp_all
theorem linOf_len (c : Nat → Int) (n : Nat) : (linOf c n).length ≤ n := by
  have := List.length_filterMap_le (fun i : Nat => if c i = 0 then none else some (⟨(i : Int), c i⟩ : S68)) (List.range n)
  simpa [linOf] using this
theorem addM_len (b : Int) (acc : List Int) (m : S68) : (addM b acc m).length = acc.length := by simp [addM]
theorem addMs_len (b : Int) (l : List S68) : ∀ acc : List Int, (l.foldl (addM b) acc).length = acc.length := by
  induction l with
  | nil => intro _; rfl
  | cons m l ih => intro acc; rw [List.foldl_cons, ih, addM_len]
theorem addM_get (b : Int) (acc : List Int) (m : S68) (v : Nat) (hv : v < acc.length) (h0 : 0 ≤ m.f0) : (addM b acc m).getD v 0 = acc.getD v 0 + (if m.f0 = (v : Int) then m.f1 else 0) * b := by
  unfold addM
  rw [List.getD_eq_getElem?_getD, List.getElem?_set, List.getD_eq_getElem?_getD, List.getD_eq_getElem?_getD]
  by_cases e : m.f0 = (v : Int)
  · have e2 : m.f0.toNat = v := by omega
    rw [if_pos e, if_pos e2, if_pos (by omega), e2]; rfl
  · rw [if_neg e, if_neg (by omega), Int.zero_mul, Int.add_zero]
theorem addMs_get (b : Int) (v : Nat) (l : List S68) : ∀ acc : List Int, v < acc.length → (∀ m ∈ l, 0 ≤ m.f0) → (l.foldl (addM b) acc).getD v 0 = acc.getD v 0 + coef l v * b := by
  induction l with
  | nil => intro acc _ _; simp [coef]
  | cons m l ih =>
    intro acc hv h
    rw [List.foldl_cons, ih _ (by rw [addM_len]; exact hv) (fun a ha => h a (List.mem_cons_of_mem _ ha)), addM_get b acc m v hv (h m (List.mem_cons_self ..))]
    simp only [coef, Int.add_mul]; omega
theorem filterMap_congr_ {α β : Type} (l : List α) (f g : α → Option β) (h : ∀ a ∈ l, f a = g a) : l.filterMap f = l.filterMap g := by
  induction l with
  | nil => rfl
  | cons a l ih =>
    rw [List.filterMap_cons, List.filterMap_cons, h a (List.mem_cons_self ..), ih (fun b hb => h b (List.mem_cons_of_mem _ hb))]
theorem hiW_small {p : Int} (h1 : -85070591730234615865843651857942052864 ≤ p) (h2 : p ≤ 85070591730234615865843651857942052864) : hiW p = p / 18446744073709551616 := by
  unfold hiW; exact w64 (by omega) (by omega)
def fitR (s : Int) : Int × Bool := if R64 s then (s, true) else (0, false)
theorem fitI_R (s : Int) : fitI s = fitR s := rfl
/-- How many times a variable stands in a form: what is met first. -/
def coefI : List S68 → Int → Int
  | [], _ => 0
  | m :: l, v => if m.f0 = v then m.f1 else coefI l v
theorem coefI_coef : ∀ (l : List S68) (last : Int), rightL last l = true → -1 ≤ last → ∀ v : Nat, coefI l v = coef l v := by
  intro l
  induction l with
  | nil => intro _ _ _ v; rfl
  | cons m l ih =>
    intro last h hl v
    have hr := h
    simp only [rightL, Bool.and_eq_true, decide_eq_true_eq] at h
    simp only [coefI, coef]
    by_cases e : m.f0 = (v : Int)
    · rw [if_pos e, if_pos e, coef_none l m.f0 h.2 v (by omega), Int.add_zero]
    · rw [if_neg e, if_neg e, Int.zero_add]; exact ih m.f0 h.2 (by omega) v
theorem right27_l0 (K : Int) (l : List S68) (hl : l.length ≤ 9223372036854775807) : ∀ (d i : Nat) (last : Int), l.length - i = d → i ≤ l.length →
    Ev (fun k => sequiturref27_Right.l0 k last i K l) (if rightL last (l.drop i) = true then 0 else 1) := by
  intro d
  induction d with
  | zero =>
    intro i last h1 h2
    refine Ev.succ (Ev.now fun k => ?_)
    simp only [sequiturref27_Right.l0]
    rw [if_neg (by omega), List.drop_eq_nil_of_le (by omega)]; rfl
  | succ d ih =>
    intro i last h1 h2
    have hi : i < l.length := by omega
    rw [List.drop_eq_getElem_cons hi]
    by_cases e : last < l[i].f0 ∧ l[i].f0 < 64 ∧ l[i].f1 ≠ 0
    · obtain ⟨e1, e2, e3⟩ := e
      refine Ev.succ (Ev.of (ih (i+1) l[i].f0 (by omega) (by omega)) fun k => ?_) |>.val ?_
      · simp only [sequiturref27_Right.l0]
        rw [if_pos (by omega), if_pos (by omega), rdM_at l i hi, if_neg (by omega), if_neg (by omega), if_neg e3, w64 (by omega) (by omega)]; rfl
      · simp only [rightL, decide_eq_true e1, decide_eq_true e2, decide_eq_true e3, Bool.true_and]
    · refine Ev.succ (Ev.now fun k => ?_)
      have hr : rightL last (l[i] :: l.drop (i+1)) = false := by
        simp only [rightL, Bool.and_eq_false_iff, decide_eq_false_iff_not]
        omega
      rw [hr]
      simp only [sequiturref27_Right.l0]
      rw [if_pos (by omega), if_pos (by omega), rdM_at l i hi]
      by_cases e1 : l[i].f0 ≤ last
      · rw [if_pos e1]; rfl
      by_cases e2 : l[i].f0 ≥ 64
      · rw [if_neg e1, if_pos e2]; rfl
      · rw [if_neg e1, if_neg e2, if_pos (by omega)]; rfl
theorem right27_ev (K : Int) (l : List S68) (hl : l.length ≤ 9223372036854775807) : Ev (fun k => sequiturref27_Right.f k K l) (if rightL (-1) l = true then 0 else 1) := by
  have := right27_l0 K l hl _ 0 (-1) rfl (by omega)
  exact this
theorem by27_l0 (K : Int) (l : List S68) (v : Int) (hlen : l.length ≤ 1000000) : ∀ (n i : Nat) (last : Int), l.length - i = n → i ≤ l.length → rightL last (l.drop i) = true →
    Ev (fun k => sequiturref27_By.l0 k v i K l) (coefI (l.drop i) v) := by
  intro n
  induction n with
  | zero =>
    intro i last h1 h2 _
    refine Ev.succ (Ev.now fun k => ?_)
    simp only [sequiturref27_By.l0]
    rw [if_neg (by omega), List.drop_eq_nil_of_le (by omega)]; rfl
  | succ n ih =>
    intro i last h1 h2 hr
    have hi : i < l.length := by omega
    rw [List.drop_eq_getElem_cons hi] at hr ⊢
    have hr2 := hr
    simp only [rightL, Bool.and_eq_true, decide_eq_true_eq] at hr2
    by_cases e : l[i].f0 = v
    · refine Ev.succ (Ev.now fun k => ?_)
      simp only [sequiturref27_By.l0, coefI]
      rw [if_pos (by omega), if_pos (by omega), rdM_at l i hi, if_pos e, if_pos e]
    · refine (Ev.succ (Ev.of (ih (i+1) l[i].f0 (by omega) (by omega) hr2.2) fun k => ?_)).val ?_
      · simp only [sequiturref27_By.l0]
        rw [if_pos (by omega), if_pos (by omega), rdM_at l i hi, if_neg e, w64 (by omega) (by omega)]; rfl
      · simp only [coefI]; rw [if_neg e]
theorem by27_ev (K : Int) (l : List S68) (v : Int) (hr : rightL (-1) l = true) : Ev (fun k => sequiturref27_By.f k K l v) (coefI l v) := by
  have hl := rightL_len l (-1) (by omega) hr
  have := by27_l0 K l v (by omega) _ 0 (-1) rfl (by omega) (by rw [List.drop_zero]; exact hr)
  exact this
/-- A total: its upper and its lower sum, and what it comes to. -/
def tv (H L : Int) : Int := H * 18446744073709551616 + L
theorem More27_ev (H L : Int) {a b : Int} (ha : R64 a) (hb : R64 b) : Ev (fun k => sequiturref27_More.f k (hiW H) (loW H) (hiW L) (loW L) a b) (hiW (H + a * b / 18446744073709551616), loW (H + a * b / 18446744073709551616), hiW (L + a * b % 18446744073709551616), loW (L + a * b % 18446744073709551616)) := by
  have hp := mul_R64 ha hb
  have ht : Ev (fun k => sequiturref01_Times.f k a b) (hiW (a * b), loW (a * b)) := Times_ev ha.1 ha.2 hb.1 hb.2
  refine Ev.bind ht (Ev.now fun k => ?_)
  generalize a * b = p at *
  simp only
  rw [hiW_small hp.1 hp.2, Of_eq (by omega) (by omega)]
  simp only [Option.bind_some]
  rw [Plus_eq]
  simp only [Option.bind_some]
  have e0 : (0 : Int) = hiW (p % 18446744073709551616) := by unfold hiW wrap64; omega
  have e1 : loW p = loW (p % 18446744073709551616) := by unfold loW; omega
  rw [e1]
  have := Plus_eq L (p % 18446744073709551616)
  rw [← e0] at this
  rw [this]; rfl
/-- What a place of a sum comes to: -1 the constant's, else the variable's. -/
def pt (v : Int) (q : S62) : Int := if v < 0 then q.f0 else coefI q.f1 v
def ps (v : Int) : List S158 → Int
  | [] => 0
  | x :: l => pt v x.f0 * x.f1 + ps v l
theorem coefI_R64 : ∀ (l : List S68) (v : Int), M64 l → R64 (coefI l v) := by
  intro l v
  induction l with
  | nil => intro _; exact ⟨by simp [coefI], by simp [coefI]⟩
  | cons m l ih =>
    intro hM
    simp only [coefI]
    split
    · exact (hM m (List.mem_cons_self ..)).2
    · exact ih (fun a ha => hM a (List.mem_cons_of_mem _ ha))
theorem monos_l0 (l : List S68) (hlen : l.length ≤ 1000000) : ∀ (n i : Nat), l.length - i = n → i ≤ l.length → Ev (fun k => sequiturbase_Monos.l0 k l l i) true := by
  intro n
  induction n with
  | zero =>
    intro i h1 h2
    refine Ev.succ (Ev.now fun k => ?_)
    simp only [sequiturbase_Monos.l0]
    rw [if_neg (by omega)]
  | succ n ih =>
    intro i h1 h2
    refine Ev.succ (Ev.of (ih (i+1) (by omega) (by omega)) fun k => ?_)
    simp only [sequiturbase_Monos.l0]
    rw [if_pos (by omega), if_pos (by omega), if_pos (by omega), if_neg (by simp), w64 (by omega) (by omega)]; rfl
theorem baseLin_ev (K : Int) (l : List S68) (hlen : l.length ≤ 1000000) : Ev (fun k => sequiturbase_Lin.f k K l K l) true := by
  have hm : Ev (fun k => sequiturbase_Monos.f k l l) true := Ev.pos rfl (monos_l0 l hlen _ 0 rfl (by omega))
  exact Ev.pos rfl (Ev.bind hm (Ev.now fun _ => rfl))
theorem linBy_l0 (l : List S68) (v : Int) (hlen : l.length ≤ 9223372036854775807) : ∀ (n i : Nat), l.length - i = n → i ≤ l.length → Ev (fun k => lin_By.l0 k v l (l.length : Int) i) (coefI (l.drop i) v) := by
  intro n
  induction n with
  | zero =>
    intro i h1 h2
    refine Ev.succ (Ev.now fun k => ?_)
    simp only [lin_By.l0]
    rw [if_neg (by omega), List.drop_eq_nil_of_le (by omega)]; rfl
  | succ n ih =>
    intro i h1 h2
    have hi : i < l.length := by omega
    rw [List.drop_eq_getElem_cons hi]
    by_cases e : l[i].f0 = v
    · refine Ev.succ (Ev.now fun k => ?_)
      simp only [lin_By.l0, coefI]
      rw [if_pos (by omega), if_pos (by omega), if_pos (by omega), rdM_at l i hi, if_pos e, if_pos e]
    · refine (Ev.succ (Ev.of (ih (i+1) (by omega) (by omega)) fun k => ?_)).val ?_
      · simp only [lin_By.l0]
        rw [if_pos (by omega), if_pos (by omega), if_pos (by omega), rdM_at l i hi, if_neg e, w64 (by omega) (by omega)]; rfl
      · simp only [coefI]; rw [if_neg e]
theorem linBy_ev (K : Int) (l : List S68) (v : Int) (hlen : l.length ≤ 9223372036854775807) : Ev (fun k => lin_By.f k K l v) (coefI l v) := by
  have := linBy_l0 l v hlen _ 0 rfl (by omega)
  exact this
theorem by27g_l0 (K : Int) (l : List S68) (v : Int) (hlen : l.length ≤ 1000000) : ∀ (n i : Nat), l.length - i = n → i ≤ l.length → Ev (fun k => sequiturref27_By.l0 k v i K l) (coefI (l.drop i) v) := by
  intro n
  induction n with
  | zero =>
    intro i h1 h2
    refine Ev.succ (Ev.now fun k => ?_)
    simp only [sequiturref27_By.l0]
    rw [if_neg (by omega), List.drop_eq_nil_of_le (by omega)]; rfl
  | succ n ih =>
    intro i h1 h2
    have hi : i < l.length := by omega
    rw [List.drop_eq_getElem_cons hi]
    by_cases e : l[i].f0 = v
    · refine Ev.succ (Ev.now fun k => ?_)
      simp only [sequiturref27_By.l0, coefI]
      rw [if_pos (by omega), if_pos (by omega), rdM_at l i hi, if_pos e, if_pos e]
    · refine (Ev.succ (Ev.of (ih (i+1) (by omega) (by omega)) fun k => ?_)).val ?_
      · simp only [sequiturref27_By.l0]
        rw [if_pos (by omega), if_pos (by omega), rdM_at l i hi, if_neg e, w64 (by omega) (by omega)]; rfl
      · simp only [coefI]; rw [if_neg e]
theorem by27g_ev (K : Int) (l : List S68) (v : Int) (hlen : l.length ≤ 1000000) : Ev (fun k => sequiturref27_By.f k K l v) (coefI l v) := by
  have := by27g_l0 K l v hlen _ 0 rfl (by omega)
  exact this
def cf (v : Int) (q : S70) : Int := coefI q.f0.f1 v
def okI (q : S70) : Bool := !q.f1 && rightL (-1) q.f0.f1
def wrongB (l : List S70) (v : Int) : Bool := decide (v < 0) || decide (v ≥ 64) || !(l.all okI)
theorem wrong1_ev (K : Int) (l : List S68) (b : Bool) (hlen : l.length ≤ 9223372036854775807) : Ev (fun k => shadow_wrong_1.f k K l b) (!okI ⟨⟨K, l⟩, b⟩) := by
  cases b
  · refine Ev.neg (by simp) (Ev.bind (iRight_ev K l false hlen) (Ev.now fun _ => ?_))
    unfold okI
    by_cases e : rightL (-1) l = true
    · simp [e]
    · simp [e]
  · exact Ev.pos rfl (Ev.now fun _ => rfl)
theorem idx30_l0 (l : List S70) (hl : l.length ≤ 1000000) (hm : ∀ q ∈ l, q.f0.f1.length ≤ 9223372036854775807) : ∀ (d i : Nat), l.length - i = d → i ≤ l.length →
    ∃ v, Ev (fun k => api_Ineq_104.l0 k l (l.length:Int) i) v ∧ decide (v ≥ 0) = !((l.drop i).all okI) := by
  intro d
  induction d with
  | zero =>
    intro i h1 h2
    refine ⟨-1, Ev.succ (Ev.now fun k => ?_), ?_⟩
    · simp only [api_Ineq_104.l0]
      rw [if_neg (by omega)]
    · rw [List.drop_eq_nil_of_le (by omega)]; rfl
  | succ d ih =>
    intro i h1 h2
    have hi : i < l.length := by omega
    rw [List.drop_eq_getElem_cons hi]
    have hq := wrong1_ev l[i].f0.f0 l[i].f0.f1 l[i].f1 (hm _ (List.getElem_mem hi))
    obtain ⟨v, ev, hv⟩ := ih (i+1) (by omega) (by omega)
    have hs : ∀ k, api_Ineq_104.l0 (k+1) l (l.length:Int) i = (shadow_wrong_1.f k l[i].f0.f0 l[i].f0.f1 l[i].f1).bind fun t => if t = true then some (i:Int) else api_Ineq_104.l0 k l (l.length:Int) ((i+1 : Nat) : Int) := by
      intro k
      simp only [api_Ineq_104.l0]
      rw [if_pos (by omega), if_pos (by omega), if_pos (by omega), rdI_at l i hi, w64 (by omega) (by omega)]; rfl
    by_cases e : okI l[i] = true
    · rw [show (⟨⟨l[i].f0.f0, l[i].f0.f1⟩, l[i].f1⟩ : S70) = l[i] from rfl, e] at hq
      refine ⟨v, Ev.succ (Ev.of (Ev.bind hq ?_) hs), ?_⟩
      · exact Ev.of ev fun k => by simp
      · rw [hv, List.all_cons, e, Bool.true_and]
    · have e' : okI l[i] = false := by simpa using e
      rw [show (⟨⟨l[i].f0.f0, l[i].f0.f1⟩, l[i].f1⟩ : S70) = l[i] from rfl, e'] at hq
      refine ⟨i, Ev.succ (Ev.of (Ev.bind hq ?_) hs), ?_⟩
      · exact Ev.now fun k => by simp
      · rw [List.all_cons, e']; simp
theorem wrong_ev (l : List S70) (v : Int) (hl : l.length ≤ 1000000) (hm : ∀ q ∈ l, q.f0.f1.length ≤ 9223372036854775807) : Ev (fun k => shadow_wrong.f k l v) (wrongB l v) := by
  unfold wrongB
  by_cases a : v < 0
  · exact Ev.pos a (Ev.now fun _ => by rw [decide_eq_true a]; rfl)
  by_cases b : v ≥ 64
  · exact Ev.neg a (Ev.pos b (Ev.now fun _ => by rw [decide_eq_true b]; simp))
  refine Ev.neg a (Ev.neg b ?_)
  obtain ⟨u, ev, hu⟩ := idx30_l0 l hl hm _ 0 rfl (by omega)
  rw [List.drop_zero] at hu
  rw [decide_eq_false a, decide_eq_false b, Bool.false_or, Bool.false_or]
  exact Ev.bind (v := !(l.all okI)) (Ev.bind ev (Ev.now fun _ => by rw [hu])) (Ev.now fun _ => rfl)
theorem wrongB_not {l : List S70} {v : Int} (h : wrongB l v = false) : 0 ≤ v ∧ v < 64 ∧ ∀ q ∈ l, q.f1 = false ∧ rightL (-1) q.f0.f1 = true := by
  unfold wrongB at h
  simp only [Bool.or_eq_false_iff, decide_eq_false_iff_not, Bool.not_eq_false', List.all_eq_true] at h
  refine ⟨by omega, by omega, fun q hq => ?_⟩
  have := h.2 q hq
  unfold okI at this
  simpa using this
theorem right30_l0 (l : List S70) (v : Int) (hl : l.length ≤ 1000000) (hm : ∀ q ∈ l, q.f0.f1.length ≤ 9223372036854775807) : ∀ (d i : Nat), l.length - i = d → i ≤ l.length →
    Ev (fun k => sequiturref30_Right.l0 k l v i) ((l.drop i).all okI && decide (v ≥ 0) && decide (v < 64)) := by
  intro d
  induction d with
  | zero =>
    intro i h1 h2
    rw [List.drop_eq_nil_of_le (by omega)]
    refine Ev.succ ?_
    simp only [sequiturref30_Right.l0]
    refine Ev.neg (by omega) ?_
    by_cases a : v ≥ 0
    · exact Ev.pos a (Ev.now fun _ => by rw [decide_eq_true a]; rfl)
    · exact Ev.neg a (Ev.now fun _ => by rw [decide_eq_false a]; rfl)
  | succ d ih =>
    intro i h1 h2
    have hi : i < l.length := by omega
    rw [List.drop_eq_getElem_cons hi, List.all_cons]
    refine Ev.succ ?_
    simp only [sequiturref30_Right.l0]
    rw [rdI_at l i hi, show wrap64 ((i:Int) + 1) = ((i+1 : Nat) : Int) by rw [w64 (by omega) (by omega)]; omega]
    refine Ev.pos (by omega) (Ev.pos (by omega) ?_)
    have hI := ih (i+1) (by omega) (by omega)
    unfold okI
    by_cases a : l[i].f1 = true
    · exact Ev.pos a (Ev.now fun _ => by rw [a]; rfl)
    · refine Ev.neg a (Ev.bind (right27_ev l[i].f0.f0 l[i].f0.f1 (hm _ (List.getElem_mem hi))) ?_)
      rw [show l[i].f1 = false by simpa using a]
      by_cases e : rightL (-1) l[i].f0.f1 = true
      · refine (Ev.pos (by rw [if_pos e]) hI).val ?_
        rw [e]; rfl
      · refine Ev.neg (by rw [if_neg e]; decide) (Ev.now fun _ => ?_)
        rw [show rightL (-1) l[i].f0.f1 = false by simpa using e]; rfl
theorem right30_ev (l : List S70) (v : Int) (hl : l.length ≤ 1000000) (hm : ∀ q ∈ l, q.f0.f1.length ≤ 9223372036854775807) : Ev (fun k => sequiturref30_Right.f k l v) (!wrongB l v) := by
  refine (right30_l0 l v hl hm _ 0 rfl (by omega)).val ?_
  unfold wrongB
  rw [List.drop_zero]
  by_cases a : v < 0
  · rw [decide_eq_true a, decide_eq_false (show ¬ v ≥ 0 by omega)]; simp
  · by_cases b : v ≥ 64
    · rw [decide_eq_false (show ¬ v < 64 by omega), decide_eq_true b]; simp
    · rw [decide_eq_false a, decide_eq_false b, decide_eq_true (show v ≥ 0 by omega), decide_eq_true (show v < 64 by omega)]; simp
/-- Does a sign fit? -/
def sgD (s n : Int) : Bool := (decide (n < 0) && decide (s < 0)) || (decide (n > 0) && decide (s > 0)) || (decide (n = 0) && decide (s = 0))
/-- The places of those whose sign fits. -/
def bnd (s v : Int) : List S70 → Int → List Int
  | [], _ => []
  | q :: l, i => if sgD s (cf v q) = true then i :: bnd s v l (i + 1) else bnd s v l (i + 1)
theorem bnd_len (s v : Int) : ∀ (l : List S70) (i : Int), (bnd s v l i).length ≤ l.length := by
  intro l
  induction l with
  | nil => intro i; simp [bnd]
  | cons q l ih =>
    intro i
    simp only [bnd]
    have := ih (i + 1)
    split <;> simp <;> omega
theorem bnd_mem (s v : Int) : ∀ (l : List S70) (i : Int), ∀ j ∈ bnd s v l i, i ≤ j ∧ j < i + l.length ∧ ∃ h : (j - i).toNat < l.length, sgD s (cf v (l[(j - i).toNat]'h)) = true := by
  intro l
  induction l with
  | nil => intro i j hj; simp [bnd] at hj
  | cons q l ih =>
    intro i j hj
    simp only [bnd] at hj
    have key : j ∈ bnd s v l (i + 1) → i ≤ j ∧ j < i + (q :: l).length ∧ ∃ h : (j - i).toNat < (q :: l).length, sgD s (cf v ((q :: l)[(j - i).toNat]'h)) = true := by
      intro hj
      obtain ⟨h1, h2, h3, h4⟩ := ih (i + 1) j hj
      refine ⟨by omega, by simp; omega, by simp; omega, ?_⟩
      have e : (j - i).toNat = (j - (i + 1)).toNat + 1 := by omega
      simp only [e, List.getElem_cons_succ]
      exact h4
    split at hj
    · rename_i hc
      rcases List.mem_cons.1 hj with rfl | hj
      · refine ⟨by omega, by simp; omega, by simp, ?_⟩
        simpa using hc
      · exact key hj
    · exact key hj
theorem bnd_if {α : Type} (t s : Int) (X Y : α) : (if t < 0 then (if s < 0 then X else (if t > 0 then (if s > 0 then X else (if t = 0 then (if s = 0 then X else Y) else Y)) else (if t = 0 then (if s = 0 then X else Y) else Y))) else (if t > 0 then (if s > 0 then X else (if t = 0 then (if s = 0 then X else Y) else Y)) else (if t = 0 then (if s = 0 then X else Y) else Y))) = if sgD s t = true then X else Y := by
  have e : sgD s t = true ↔ (t < 0 ∧ s < 0) ∨ (t > 0 ∧ s > 0) ∨ (t = 0 ∧ s = 0) := by
    unfold sgD
    simp only [Bool.or_eq_true, Bool.and_eq_true, decide_eq_true_eq, or_assoc]
  by_cases h : sgD s t = true
  · rw [if_pos h]
    rw [e] at h
    rcases h with ⟨a, b⟩ | ⟨a, b⟩ | ⟨a, b⟩
    · rw [if_pos a, if_pos b]
    · rw [if_neg (by omega), if_pos a, if_pos b]
    · rw [if_neg (by omega), if_neg (by omega), if_pos a, if_pos b]
  · rw [if_neg h]
    rw [e] at h
    by_cases a : t < 0
    · rw [if_pos a, if_neg (by omega), if_neg (by omega), if_neg (by omega)]
    · rw [if_neg a]
      by_cases b : t > 0
      · rw [if_pos b, if_neg (by omega), if_neg (by omega)]
      · rw [if_neg b, if_pos (by omega), if_neg (by omega)]
theorem bounds_l0 (s : Int) (l : List S70) (v : Int) (hl : l.length ≤ 1000000) (hm : ∀ q ∈ l, q.f0.f1.length ≤ 9223372036854775807) : ∀ (d i : Nat) (acc : List Int), l.length - i = d → i ≤ l.length → acc.length ≤ i →
    Ev (fun k => shadow_bounds_1.l0 k s acc l (l.length : Int) i v) (acc ++ bnd s v (l.drop i) i) := by
  intro d
  induction d with
  | zero =>
    intro i acc h1 h2 ha
    rw [List.drop_eq_nil_of_le (by omega)]
    refine Ev.succ ?_
    simp only [shadow_bounds_1.l0]
    exact Ev.neg (by omega) (Ev.now fun _ => by simp [bnd])
  | succ d ih =>
    intro i acc h1 h2 ha
    have hi : i < l.length := by omega
    rw [List.drop_eq_getElem_cons hi]
    have hb := linBy_ev l[i].f0.f0 l[i].f0.f1 v (hm _ (List.getElem_mem hi))
    have hs : ∀ k, shadow_bounds_1.l0 (k+1) s acc l (l.length:Int) i v = (lin_By.f k l[i].f0.f0 l[i].f0.f1 v).bind fun t => if sgD s t = true then shadow_bounds_1.l0 k s (acc ++ [(i:Int)]) l (l.length:Int) ((i+1 : Nat) : Int) v else shadow_bounds_1.l0 k s acc l (l.length:Int) ((i+1 : Nat) : Int) v := by
      intro k
      simp only [shadow_bounds_1.l0]
      rw [if_pos (by omega), if_pos (by omega), if_pos (by omega), rdI_at l i hi, show wrap64 ((i:Int) + 1) = ((i+1 : Nat) : Int) by rw [w64 (by omega) (by omega)]; omega]
      congr 1
      funext t
      rw [if_pos (show acc.length < 17592186044416 by omega)]
      exact bnd_if t s _ _
    refine Ev.succ (Ev.of (Ev.bind hb ?_) hs)
    simp only [bnd]
    by_cases c : sgD s (cf v l[i]) = true
    · rw [if_pos c]
      refine Ev.pos c ((ih (i+1) (acc ++ [(i:Int)]) (by omega) (by omega) (by simp; omega)).val ?_)
      rw [List.append_assoc]; rfl
    · rw [if_neg c]
      refine Ev.neg c ((ih (i+1) acc (by omega) (by omega) (by omega)).val ?_)
      rfl
theorem bounds_ev (s : Int) (l : List S70) (v : Int) (hl : l.length ≤ 1000000) (hm : ∀ q ∈ l, q.f0.f1.length ≤ 9223372036854775807) : Ev (fun k => shadow_bounds_1.f k s l v) (bnd s v l 0) := by
  have := bounds_l0 s l v hl hm _ 0 [] rfl (by omega) (by simp)
  exact this
theorem long30_l0 (l : List S70) (hl : l.length ≤ 1000000) : ∀ (d i : Nat), l.length - i = d → i ≤ l.length → Ev (fun k => sequiturref30_Long.l0 k l i) (!((l.drop i).all fun q => decide (q.f0.f1.length ≤ 70))) := by
  intro d
  induction d with
  | zero =>
    intro i h1 h2
    refine Ev.succ (Ev.now fun k => ?_)
    simp only [sequiturref30_Long.l0]
    rw [if_neg (by omega), List.drop_eq_nil_of_le (by omega)]; rfl
  | succ d ih =>
    intro i h1 h2
    have hi : i < l.length := by omega
    rw [List.drop_eq_getElem_cons hi, List.all_cons]
    refine Ev.succ ?_
    simp only [sequiturref30_Long.l0]
    rw [rdI_at l i hi]
    refine Ev.pos (by omega) (Ev.pos (by omega) ?_)
    by_cases e : l[i].f0.f1.length ≤ 70
    · refine Ev.neg (by omega) (((ih (i+1) (by omega) (by omega)).of fun k => ?_).val ?_)
      · rw [w64 (by omega) (by omega)]; rfl
      · rw [decide_eq_true e, Bool.true_and]
    · refine Ev.pos (by omega) (Ev.now fun _ => ?_)
      rw [decide_eq_false e]; rfl
def longI (l : List S70) (n : Int) : Bool := decide ((l.length : Int) > n) || !(l.all fun q => decide (q.f0.f1.length ≤ 70))
theorem long30_ev (l : List S70) (n : Int) (hn : n ≤ 1000000) : Ev (fun k => sequiturref30_Long.f k l n) (longI l n) := by
  unfold longI
  by_cases e : (l.length : Int) > n
  · refine Ev.pos e (Ev.now fun _ => ?_)
    rw [decide_eq_true e]; rfl
  · refine Ev.neg e ((long30_l0 l (by omega) _ 0 rfl (by omega)).val ?_)
    rw [decide_eq_false e, List.drop_zero, Bool.false_or]
theorem longI_not {l : List S70} {n : Int} (h : longI l n = false) : (l.length : Int) ≤ n ∧ ∀ q ∈ l, q.f0.f1.length ≤ 70 := by
  unfold longI at h
  rw [Bool.or_eq_false_iff] at h
  refine ⟨by simpa using h.1, fun q hq => ?_⟩
  have h2 : (l.all fun q => decide (q.f0.f1.length ≤ 70)) = true := by simpa using h.2
  simpa using List.all_eq_true.1 h2 q hq
theorem alive30_ev : Ev (fun k => sequiturlaw30_alive.f k) true := Ev.mono 200 sequiturlaw30_alive.mono (by decide +kernel)
def shC (la lb : List S68) (low up : Int) (v : Nat) : Int := coef la v * up - coef lb v * low
def shK (ka kb low up : Int) (dark : Bool) : Int := ka * up - kb * low + (if dark = true then (-1 - low) * (up - 1) else 0)
def shadeD (ka : Int) (la : List S68) (kb : Int) (lb : List S68) (low up : Int) (dark : Bool) : Int × List S68 × Bool :=
  ((fitR (shK ka kb low up dark)).1, linOf (fun v => (fitR (shC la lb low up v)).1) 64, (fitR (shK ka kb low up dark)).2 && (List.range 64).all fun v => (fitR (shC la lb low up v)).2)
theorem subM_len (b : Int) (acc : List Int) (m : S68) : (subM b acc m).length = acc.length := by simp [subM]
theorem subM_get (b : Int) (acc : List Int) (m : S68) (v : Nat) (hv : v < acc.length) (h0 : 0 ≤ m.f0) : (subM b acc m).getD v 0 = acc.getD v 0 - (if m.f0 = (v : Int) then m.f1 else 0) * b := by
  unfold subM
  rw [List.getD_eq_getElem?_getD, List.getElem?_set, List.getD_eq_getElem?_getD, List.getD_eq_getElem?_getD]
  by_cases e : m.f0 = (v : Int)
  · have e2 : m.f0.toNat = v := by omega
    rw [if_pos e, if_pos e2, if_pos (by omega), e2]; rfl
  · rw [if_neg e, if_neg (by omega), Int.zero_mul, Int.sub_zero]
theorem subMs_get (b : Int) (v : Nat) (l : List S68) : ∀ acc : List Int, v < acc.length → (∀ m ∈ l, 0 ≤ m.f0) → (l.foldl (subM b) acc).getD v 0 = acc.getD v 0 - coef l v * b := by
  induction l with
  | nil => intro acc _ _; simp [coef]
  | cons m l ih =>
    intro acc hv h
    rw [List.foldl_cons, ih _ (by rw [subM_len]; exact hv) (fun a ha => h a (List.mem_cons_of_mem _ ha)), subM_get b acc m v hv (h m (List.mem_cons_self ..))]
    simp only [coef, Int.add_mul]; omega
theorem shadeL_get {la lb : List S68} {low up : Int} (ha : rightL (-1) la = true) (hb : rightL (-1) lb = true) (v : Nat) (hv : v < 64) : (shadeL la lb low up).getD v 0 = shC la lb low up v := by
  unfold shadeL shC
  rw [subMs_get low v lb _ (by rw [addMs_len]; simpa using hv) (fun m hm => (rightL_vars hb m hm).1), addMs_get up v la _ (by simpa using hv) (fun m hm => (rightL_vars ha m hm).1)]
  have h0 : (List.replicate 64 (0:Int)).getD v 0 = 0 := by rw [List.getD_eq_getElem?_getD, List.getElem?_replicate, if_pos hv]; rfl
  rw [h0]; omega
theorem fit192_R {s : Int} (h1 : -3138550867693340381917894711603833208051177722232017256448 ≤ s) (h2 : s < 3138550867693340381917894711603833208051177722232017256448) : fit192 s = fitR s := by
  unfold fit192; rw [wrap192_id h1 h2]; rfl
theorem shC_le {la lb : List S68} {low up : Int} (ha : rightL (-1) la = true) (hb : rightL (-1) lb = true) (hla : M64 la) (hlb : M64 lb) (hlow : R64 low) (hup : R64 up) (v : Nat) :
    -170141183460469231731687303715884105728 ≤ shC la lb low up v ∧ shC la lb low up v ≤ 170141183460469231731687303715884105728 := by
  have h1 := mul_R64 (coef_R64 la (-1) ha hla v) hup
  have h2 := mul_R64 (coef_R64 lb (-1) hb hlb v) hlow
  unfold shC
  omega
theorem shadeK_eq (ka kb low up : Int) (dark : Bool) : shadeK ka kb low up dark = shK ka kb low up dark := by
  unfold shadeK shK
  cases dark
  · simp
  · simp only [if_true]
    rw [Int.sub_mul, Int.mul_sub, Int.mul_sub]
    omega
theorem shK_le {ka kb low up : Int} {dark : Bool} (hka : R64 ka) (hkb : R64 kb) (hlow : R64 low) (hup : R64 up) :
    -680564733841876926926749214863536422912 ≤ shK ka kb low up dark ∧ shK ka kb low up dark ≤ 680564733841876926926749214863536422912 := by
  rw [← shadeK_eq]
  have h1 := mul_R64 hka hup
  have h2 := mul_R64 hkb hlow
  have h3 := mul_R64 hlow hup
  have h4 := hlow.1
  have h5 := hlow.2
  have h6 := hup.1
  have h7 := hup.2
  unfold shadeK
  generalize ka * up = p at *
  generalize kb * low = q at *
  generalize low * up = r at *
  split <;> omega
theorem shade_ev {ka : Int} {la : List S68} {kb : Int} {lb : List S68} (v : Int) (dark : Bool) (hka : R64 ka) (hkb : R64 kb) (hla : M64 la) (hlb : M64 lb) (ha : rightL (-1) la = true) (hb : rightL (-1) lb = true) :
    Ev (fun k => shadow_shade.f k ka la kb lb v dark) (shadeD ka la kb lb (coefI la v) (coefI lb v) dark) := by
  have na := rightL_len la (-1) (by omega) ha
  have nb := rightL_len lb (-1) (by omega) hb
  have hlow := coefI_R64 la v hla
  have hup := coefI_R64 lb v hlb
  refine Ev.bind (linBy_ev ka la v (by omega)) (Ev.bind (linBy_ev kb lb v (by omega)) ?_)
  have hgood : ∀ l : List S68, M64 l → rightL (-1) l = true → l.all goodM = true := by
    intro l hM hr
    rw [List.all_eq_true]
    intro m hm
    have := rightL_vars hr m hm
    simp only [goodM, Bool.and_eq_true, decide_eq_true_eq]
    exact ⟨this, in64_of (hM m hm).2⟩
  refine Ev.pos (by rw [in64_of hka, in64_of hkb, in64_of hlow, in64_of hup, hgood la hla ha, hgood lb hlb hb]; rfl) (Ev.now fun _ => ?_)
  have hk := shK_le (dark := dark) hka hkb hlow hup
  have eK : fit192 (shadeK ka kb (coefI la v) (coefI lb v) dark) = fitR (shK ka kb (coefI la v) (coefI lb v) dark) := by
    rw [shadeK_eq]; exact fit192_R (by omega) (by omega)
  have eC : ∀ i, i < 64 → fit192 ((shadeL la lb (coefI la v) (coefI lb v)).getD i 0) = fitR (shC la lb (coefI la v) (coefI lb v) i) := by
    intro i hi
    have hc := shC_le ha hb hla hlb hlow hup i
    rw [shadeL_get ha hb i hi]
    exact fit192_R (by omega) (by omega)
  have e1 : sumOut (shadeL la lb (coefI la v) (coefI lb v)) 64 = linOf (fun i => (fitR (shC la lb (coefI la v) (coefI lb v) i)).1) 64 := by
    unfold sumOut linOf
    refine filterMap_congr_ _ _ _ fun i hi => ?_
    rw [eC i (List.mem_range.1 hi)]
  have e2 : ((List.range 64).all fun i => (fit192 ((shadeL la lb (coefI la v) (coefI lb v)).getD i 0)).2) = ((List.range 64).all fun i => (fitR (shC la lb (coefI la v) (coefI lb v) i)).2) := by
    rw [Bool.eq_iff_iff, List.all_eq_true, List.all_eq_true]
    constructor
    · intro hh i hi
      have := hh i hi
      rwa [eC i (List.mem_range.1 hi)] at this
    · intro hh i hi
      have := hh i hi
      rwa [eC i (List.mem_range.1 hi)]
  unfold shadeD sumOk
  rw [eK, e1, e2]
theorem TFits30_eq {H L : Int} (h1 : -1000000000000000000000000000 ≤ H) (h2 : H ≤ 1000000000000000000000000000) (h3 : -1000000000000000000000000000 ≤ L) (h4 : L ≤ 1000000000000000000000000000) : sequiturref27_Fits.f (hiW H) (loW H) (hiW L) (loW L) = some (fitR (tv H L)) := by
  unfold sequiturref27_Fits.f
  have hc : hiW L = L / 18446744073709551616 := by unfold hiW; rw [w64 (by omega) (by omega)]
  rw [hc, Of_eq (by omega) (by omega)]
  simp only [Option.bind_some]
  rw [Plus_eq]
  simp only [Option.bind_some]
  rw [Fits_eq _ (by omega) (by omega), fitI_R]
  simp only [Option.bind_some]
  have ht : H + L / 18446744073709551616 = tv H L / 18446744073709551616 := by unfold tv; omega
  have hm : loW L = loW (tv H L) := by unfold loW tv; omega
  have hb1 : -3138550867693340381917894711603833208051177722232017256448 ≤ tv H L := by unfold tv; omega
  have hb2 : tv H L < 3138550867693340381917894711603833208051177722232017256448 := by unfold tv; omega
  rw [ht, hm]
  generalize tv H L = s at *
  unfold fitR
  by_cases e : R64 (s / 18446744073709551616)
  · rw [if_pos e]
    simp only [if_true]
    have e1 := e.1
    have e2 := e.2
    have hh : s / 18446744073709551616 = hiW s := by unfold hiW; rw [w64 (by omega) (by omega)]
    rw [hh, Fits_eq s (by omega) (by omega), fitI_R]
    rfl
  · rw [if_neg e]
    simp only [Bool.false_eq_true, if_false]
    rw [if_neg (fun h : R64 s => e (by have := h.1; have := h.2; exact ⟨by omega, by omega⟩))]
section
variable (ka : Int) (la : List S68) (kb : Int) (lb : List S68) (b d : Int) (dark : Bool)
theorem pair_j3 (good : Bool) (v : Int) (K : Int) (L0 : List S68) (R : Int × List S68 × Bool) (H L s : Int) (h1 : -1000000000000000000000000000 ≤ H) (h2 : H ≤ 1000000000000000000000000000) (h3 : -1000000000000000000000000000 ≤ L) (h4 : L ≤ 1000000000000000000000000000) (hs : tv H L = s)
    (HH : Ev (fun k => sequiturref30_pair.j4 k dark d b (good && (fitR s).2) v (fitR s).1 ka la kb lb K L0) R) :
    Ev (fun k => sequiturref30_pair.j3 k dark d b good v ka la kb lb K L0 (hiW H) (loW H) (hiW L) (loW L)) R := by
  refine Ev.succ (Ev.of HH fun k => ?_)
  simp only [sequiturref30_pair.j3]
  rw [TFits30_eq h1 h2 h3 h4, hs]
  simp only [Option.bind_some]
  cases good
  · simp only [Bool.false_eq_true, if_false, Bool.false_and]
  · simp only [if_true, Bool.true_and]
theorem pair_j1 (good : Bool) (v x y : Int) (K : Int) (L0 : List S68) (R : Int × List S68 × Bool) (hx : R64 x) (hy : R64 y) (hb : R64 b) (hd : R64 d) (hd0 : v < 0 → dark = true → -9223372036854775808 < d)
    (HH : Ev (fun k => sequiturref30_pair.j4 k dark d b (good && (fitR (d * x - y * b + (if v < 0 ∧ dark = true then (-1 - b) * (d - 1) else 0))).2) v (fitR (d * x - y * b + (if v < 0 ∧ dark = true then (-1 - b) * (d - 1) else 0))).1 ka la kb lb K L0) R) :
    Ev (fun k => sequiturref30_pair.j1 k dark d b good v x y ka la kb lb K L0) R := by
  have hp := mul_R64 hy hb
  have hq := mul_R64 hd hx
  have hT : Ev (fun k => sequiturref01_Times.f k y b) (hiW (y * b), loW (y * b)) := Times_ev hy.1 hy.2 hb.1 hb.2
  have hM := More27_ev 0 0 hd hx
  rw [hiW0, loW0] at hM
  refine Ev.succ ?_
  simp only [sequiturref30_pair.j1]
  refine Ev.bind hT (Ev.bind hM ?_)
  simp only
  have hOf : sequiturref01_Of.f (hiW (y * b)) = some (hiW (y * b / 18446744073709551616), loW (y * b / 18446744073709551616)) := by
    rw [hiW_small hp.1 hp.2, Of_eq (by omega) (by omega)]
  rw [hOf]
  simp only [Option.bind_some]
  rw [Minus_eq]
  simp only [Option.bind_some]
  rw [Plus_eq]
  simp only [Option.bind_some]
  have e0 : sequiturref01_Minus.f 0 (loW (y * b)) = some (hiW (-(y * b % 18446744073709551616)), loW (-(y * b % 18446744073709551616))) := by
    have a1 : (0 : Int) = hiW (y * b % 18446744073709551616) := by unfold hiW wrap64; omega
    have a2 : loW (y * b) = loW (y * b % 18446744073709551616) := by unfold loW; omega
    have := Minus_eq (y * b % 18446744073709551616)
    rw [← a1, ← a2] at this
    exact this
  rw [e0]
  simp only [Option.bind_some]
  rw [Plus_eq]
  simp only [Option.bind_some]
  have hv0 : ∀ P Q : Int, tv (0 + P / 18446744073709551616 + -(Q / 18446744073709551616)) (0 + P % 18446744073709551616 + -(Q % 18446744073709551616)) = P - Q := by
    intro P Q; unfold tv; omega
  by_cases c : v < 0 ∧ dark = true
  · rw [if_pos c] at HH
    have hm1 : wrap64 (-1 - b) = -1 - b := by have := hb.1; have := hb.2; exact w64 (by omega) (by omega)
    have hm2 : wrap64 (d - 1) = d - 1 := by have := hd.2; have := hd0 c.1 c.2; exact w64 (by omega) (by omega)
    have r1 : R64 (-1 - b) := by have := hb.1; have := hb.2; exact ⟨by omega, by omega⟩
    have r2 : R64 (d - 1) := by have := hd.2; have := hd0 c.1 c.2; exact ⟨by omega, by omega⟩
    have hr := mul_R64 r1 r2
    refine Ev.pos c.1 (Ev.succ ?_)
    simp only [sequiturref30_pair.j2]
    refine Ev.pos c.2 ?_
    rw [hm1, hm2]
    refine Ev.bind (More27_ev _ _ r1 r2) ?_
    generalize y * b = Q at *
    generalize d * x = P at *
    generalize (-1 - b) * (d - 1) = T at *
    refine pair_j3 ka la kb lb b d dark good v K L0 R _ _ _ (by omega) (by omega) (by omega) (by omega) ?_ HH
    have := hv0 P Q
    unfold tv at this ⊢
    omega
  · rw [if_neg c, Int.add_zero] at HH
    have hj : Ev (fun k => sequiturref30_pair.j2 k dark d b good v false ka la kb lb K L0 (hiW (0 + d * x / 18446744073709551616 + -(y * b / 18446744073709551616))) (loW (0 + d * x / 18446744073709551616 + -(y * b / 18446744073709551616))) (hiW (0 + d * x % 18446744073709551616 + -(y * b % 18446744073709551616))) (loW (0 + d * x % 18446744073709551616 + -(y * b % 18446744073709551616)))) R := by
      refine Ev.succ ?_
      simp only [sequiturref30_pair.j2]
      refine Ev.neg (by simp) ?_
      generalize y * b = Q at *
      generalize d * x = P at *
      exact pair_j3 ka la kb lb b d dark good v K L0 R _ _ _ (by omega) (by omega) (by omega) (by omega) (hv0 P Q) HH
    by_cases cv : v < 0
    · refine Ev.pos cv ?_
      have hdk : dark = false := by
        cases dark
        · rfl
        · exact absurd ⟨cv, rfl⟩ c
      rw [hdk] at hj ⊢
      exact hj
    · exact Ev.neg cv hj
end
theorem pair_l0 {ka : Int} {la : List S68} {kb : Int} {lb : List S68} {b d : Int} {dark : Bool} (hka : R64 ka) (hkb : R64 kb) (hla : M64 la) (hlb : M64 lb) (ha : rightL (-1) la = true) (hb : rightL (-1) lb = true) (hb_ : R64 b) (hd_ : R64 d) (K : Int) (ok0 : Bool) :
    ∀ (n v : Nat) (ok : Bool) (L : List S68), 64 - v = n → v ≤ 64 → L = linOf (fun v => (fitR (shC la lb b d v)).1) v → ok = (ok0 && (List.range v).all fun v => (fitR (shC la lb b d v)).2) →
    Ev (fun k => sequiturref30_pair.l0 k dark d b ok v ka la kb lb K L) (K, linOf (fun v => (fitR (shC la lb b d v)).1) 64, ok0 && (List.range 64).all fun v => (fitR (shC la lb b d v)).2) := by
  intro n
  induction n with
  | zero =>
    intro v ok L h1 h2 hL hok
    obtain rfl : v = 64 := by omega
    refine Ev.succ ?_
    simp only [sequiturref30_pair.l0]
    refine Ev.neg (by omega) ?_
    subst hL hok
    exact Ev.now fun _ => rfl
  | succ n ih =>
    intro v ok L h1 h2 hL hok
    have hLl : L.length ≤ 64 := by rw [hL]; have := linOf_len (fun v => (fitR (shC la lb b d v)).1) v; omega
    refine Ev.succ ?_
    simp only [sequiturref30_pair.l0]
    refine Ev.pos (by omega) (Ev.pos (by omega) (Ev.bind (by27_ev ka la v ha) (Ev.bind (by27_ev kb lb v hb) ?_)))
    refine pair_j1 ka la kb lb b d dark ok v _ _ K L _ (coefI_R64 la v hla) (coefI_R64 lb v hlb) hb_ hd_ (fun h => absurd h (by omega)) ?_
    rw [if_neg (fun h => absurd h.1 (by omega)), Int.add_zero, coefI_coef la (-1) ha (by omega) v, coefI_coef lb (-1) hb (by omega) v]
    have hc : d * coef la v - coef lb v * b = shC la lb b d v := by unfold shC; rw [Int.mul_comm d]
    rw [hc]
    have hI := ih (v+1) (ok && (fitR (shC la lb b d v)).2) (if (fitR (shC la lb b d v)).1 = 0 then L else L ++ [⟨(v:Int), (fitR (shC la lb b d v)).1⟩]) (by omega) (by omega) (by
      rw [linOf_succ, ← hL]
      split
      · rw [List.append_nil]
      · rfl) (by rw [hok, List.range_succ, List.all_append, ← Bool.and_assoc]; simp only [List.all_cons, List.all_nil, Bool.and_true])
    refine Ev.succ (Ev.of hI fun k => ?_)
    simp only [sequiturref30_pair.j4]
    rw [if_neg (by omega), show wrap64 ((v:Int) + 1) = ((v+1 : Nat) : Int) by rw [w64 (by omega) (by omega)]; omega]
    by_cases z : (fitR (shC la lb b d v)).1 = 0
    · rw [if_pos z, if_pos z]
    · rw [if_neg z, if_neg z, if_pos (by omega)]
theorem pair_ev {ka : Int} {la : List S68} {kb : Int} {lb : List S68} (v : Int) (dark : Bool) (hka : R64 ka) (hkb : R64 kb) (hla : M64 la) (hlb : M64 lb) (ha : rightL (-1) la = true) (hb : rightL (-1) lb = true) (hup : 0 < coefI lb v) :
    Ev (fun k => sequiturref30_pair.f k ka la kb lb v dark) (shadeD ka la kb lb (coefI la v) (coefI lb v) dark) := by
  have hlow := coefI_R64 la v hla
  have hupR := coefI_R64 lb v hlb
  refine Ev.bind (by27_ev kb lb v hb) (Ev.bind (by27_ev ka la v ha) ?_)
  generalize coefI la v = b at *
  generalize coefI lb v = d at *
  refine Ev.succ ?_
  simp only [sequiturref30_pair.l0]
  refine Ev.pos (by omega) (Ev.neg (by omega) ?_)
  refine pair_j1 ka la kb lb b d dark true (-1) ka kb 0 [] _ hka hkb hlow hupR (fun _ _ => by omega) ?_
  have hk : d * ka - kb * b + (if (-1 : Int) < 0 ∧ dark = true then (-1 - b) * (d - 1) else 0) = shK ka kb b d dark := by
    unfold shK
    rw [Int.mul_comm d]
    cases dark <;> simp
  rw [hk, Bool.true_and]
  refine Ev.succ ?_
  simp only [sequiturref30_pair.j4]
  refine Ev.pos (by omega) ?_
  rw [show wrap64 (-1 + 1) = ((0 : Nat) : Int) by rw [w64 (by omega) (by omega)]; rfl]
  exact pair_l0 hka hkb hla hlb ha hb hlow hupR _ (fitR (shK ka kb b d dark)).2 _ 0 _ [] rfl (by omega) rfl (by simp)
def goP {β : Type} (mk : S70 → Int → Int → β) (l : List S70) (v : Int) (dark : Bool) : List (Int × Int) → List β → List β × Int
  | [], acc => (acc, 0)
  | p :: ps, acc => if (shadeD (rd_T70 l p.1).f0.f0 (rd_T70 l p.1).f0.f1 (rd_T70 l p.2).f0.f0 (rd_T70 l p.2).f0.f1 (cf v (rd_T70 l p.1)) (cf v (rd_T70 l p.2)) dark).2.2 = true then goP mk l v dark ps (acc ++ [mk ⟨⟨(shadeD (rd_T70 l p.1).f0.f0 (rd_T70 l p.1).f0.f1 (rd_T70 l p.2).f0.f0 (rd_T70 l p.2).f0.f1 (cf v (rd_T70 l p.1)) (cf v (rd_T70 l p.2)) dark).1, (shadeD (rd_T70 l p.1).f0.f0 (rd_T70 l p.1).f0.f1 (rd_T70 l p.2).f0.f0 (rd_T70 l p.2).f0.f1 (cf v (rd_T70 l p.1)) (cf v (rd_T70 l p.2)) dark).2.1⟩, false⟩ p.1 p.2]) else ([], 5)
def nonesD {β : Type} (mk : S70 → Int → Int → β) (l : List S70) (v : Int) : List β := (bnd 0 v l 0).map fun i => mk (rd_T70 l i) i i
def pairsD (l : List S70) (v : Int) : List (Int × Int) := (bnd (-1) v l 0).flatMap fun i => (bnd 1 v l 0).map fun k => (i, k)
def castD {β : Type} (mk : S70 → Int → Int → β) (l : List S70) (v : Int) (dark : Bool) : List β × Int :=
  if wrongB l v = true then ([], 1) else if ((bnd 0 v l 0).length : Int) + (bnd (-1) v l 0).length * (bnd 1 v l 0).length > 1024 then ([], 2) else goP mk l v dark (pairsD l v) (nonesD mk l v)
theorem bnd_at {s v : Int} {l : List S70} {j : Int} (h : j ∈ bnd s v l 0) : 0 ≤ j ∧ j < l.length ∧ ∃ h : j.toNat < l.length, rd_T70 l j = l[j.toNat] ∧ sgD s (cf v (l[j.toNat]'h)) = true := by
  obtain ⟨h1, h2, h3, h4⟩ := bnd_mem s v l 0 j h
  rw [Int.sub_zero] at h3
  refine ⟨h1, by omega, h3, by simp [rd_T70, h3], ?_⟩
  have e : (j - 0).toNat = j.toNat := by rw [Int.sub_zero]
  simp only [e] at h4
  exact h4
section
variable (l : List S70) (v : Int) (dark : Bool) (hl : l.length ≤ 1000) (hR : ∀ q ∈ l, R64 q.f0.f0 ∧ M64 q.f0.f1) (hr : ∀ q ∈ l, q.f1 = false ∧ rightL (-1) q.f0.f1 = true)
include hl hR hr
theorem all_l2 (R : List S72 × Int) (i : Int) (hi : i ∈ bnd (-1) v l 0) (rest : List (Int × Int)) (L : List Int) (p1 : Int) (HH : ∀ acc : List S72, acc.length + rest.length ≤ 2000000 → Ev (fun k => shadow_all.l1 k l v dark (bnd 1 v l 0) acc L (L.length : Int) p1) (goP S72.mk l v dark rest acc)) (p : Int) (hp : wrap64 (p + 1) = p1) :
    ∀ (d j : Nat) (acc : List S72), (bnd 1 v l 0).length - j = d → j ≤ (bnd 1 v l 0).length → acc.length + (((bnd 1 v l 0).drop j).map fun k => (i, k)).length + rest.length ≤ 2000000 →
    Ev (fun k => shadow_all.l2 k l v dark (bnd 1 v l 0) acc i L (L.length : Int) p (bnd 1 v l 0) ((bnd 1 v l 0).length : Int) j) (goP S72.mk l v dark ((((bnd 1 v l 0).drop j).map fun k => (i, k)) ++ rest) acc) := by
  have hbl := bnd_len 1 v l 0
  obtain ⟨i0, i1, i2, i3, i4⟩ := bnd_at hi
  intro d
  induction d with
  | zero =>
    intro j acc h1 h2 h3
    rw [List.drop_eq_nil_of_le (by omega)] at h3 ⊢
    refine Ev.succ ?_
    simp only [shadow_all.l2]
    refine Ev.neg (by omega) ?_
    rw [hp]
    exact HH acc (by simpa using h3)
  | succ d ih =>
    intro j acc h1 h2 h3
    have hj : j < (bnd 1 v l 0).length := by omega
    rw [List.drop_eq_getElem_cons hj] at h3 ⊢
    rw [List.map_cons, List.cons_append]
    simp only [List.map_cons, List.length_cons] at h3
    have hm : (bnd 1 v l 0)[j] ∈ bnd 1 v l 0 := List.getElem_mem hj
    obtain ⟨k0, k1, k2, k3, k4⟩ := bnd_at hm
    have hrd : rd (bnd 1 v l 0) (j : Int) = (bnd 1 v l 0)[j] := rd_at _ j hj
    have qi := hR _ (List.getElem_mem i2)
    have qk := hR _ (List.getElem_mem k2)
    have ri := (hr _ (List.getElem_mem i2)).2
    have rk := (hr _ (List.getElem_mem k2)).2
    rw [← i3] at qi ri
    rw [← k3] at qk rk
    have hs := shade_ev (ka := (rd_T70 l i).f0.f0) (kb := (rd_T70 l (bnd 1 v l 0)[j]).f0.f0) v dark qi.1 qk.1 qi.2 qk.2 ri rk
    refine Ev.succ ?_
    simp only [shadow_all.l2]
    rw [hrd, show wrap64 ((j:Int) + 1) = ((j+1 : Nat) : Int) by rw [w64 (by omega) (by omega)]; omega]
    refine Ev.pos (by omega) (Ev.pos (by omega) (Ev.pos (by omega) (Ev.pos i0 (Ev.pos i1 (Ev.pos k0 (Ev.pos k1 (Ev.bind hs ?_)))))))
    simp only [goP]
    by_cases c : (shadeD (rd_T70 l i).f0.f0 (rd_T70 l i).f0.f1 (rd_T70 l (bnd 1 v l 0)[j]).f0.f0 (rd_T70 l (bnd 1 v l 0)[j]).f0.f1 (coefI (rd_T70 l i).f0.f1 v) (coefI (rd_T70 l (bnd 1 v l 0)[j]).f0.f1 v) dark).2.2 = true
    · rw [if_pos (show (shadeD (rd_T70 l i).f0.f0 (rd_T70 l i).f0.f1 (rd_T70 l (bnd 1 v l 0)[j]).f0.f0 (rd_T70 l (bnd 1 v l 0)[j]).f0.f1 (cf v (rd_T70 l i)) (cf v (rd_T70 l (bnd 1 v l 0)[j])) dark).2.2 = true from c)]
      refine Ev.pos c (Ev.pos (by omega) ?_)
      exact ih (j+1) _ (by omega) (by omega) (by simp only [List.length_append, List.length_cons, List.length_nil]; omega)
    · rw [if_neg (show ¬ (shadeD (rd_T70 l i).f0.f0 (rd_T70 l i).f0.f1 (rd_T70 l (bnd 1 v l 0)[j]).f0.f0 (rd_T70 l (bnd 1 v l 0)[j]).f0.f1 (cf v (rd_T70 l i)) (cf v (rd_T70 l (bnd 1 v l 0)[j])) dark).2.2 = true from c)]
      exact Ev.neg c (Ev.now fun _ => rfl)
theorem all_l1 : ∀ (d j : Nat) (acc : List S72), (bnd (-1) v l 0).length - j = d → j ≤ (bnd (-1) v l 0).length → acc.length + (((bnd (-1) v l 0).drop j).flatMap fun i => (bnd 1 v l 0).map fun k => (i, k)).length ≤ 2000000 →
    Ev (fun k => shadow_all.l1 k l v dark (bnd 1 v l 0) acc (bnd (-1) v l 0) ((bnd (-1) v l 0).length : Int) j) (goP S72.mk l v dark (((bnd (-1) v l 0).drop j).flatMap fun i => (bnd 1 v l 0).map fun k => (i, k)) acc) := by
  have hbl := bnd_len (-1) v l 0
  intro d
  induction d with
  | zero =>
    intro j acc h1 h2 h3
    rw [List.drop_eq_nil_of_le (by omega)]
    refine Ev.succ ?_
    simp only [shadow_all.l1]
    exact Ev.neg (by omega) (Ev.now fun _ => rfl)
  | succ d ih =>
    intro j acc h1 h2 h3
    have hj : j < (bnd (-1) v l 0).length := by omega
    rw [List.drop_eq_getElem_cons hj, List.flatMap_cons] at h3 ⊢
    rw [List.length_append] at h3
    have hrd : rd (bnd (-1) v l 0) (j : Int) = (bnd (-1) v l 0)[j] := rd_at _ j hj
    refine Ev.succ ?_
    simp only [shadow_all.l1]
    rw [hrd]
    refine Ev.pos (by omega) (Ev.pos (by omega) (Ev.pos (by omega) ?_))
    have := all_l2 l v dark hl hR hr (goP S72.mk l v dark (((bnd (-1) v l 0).drop (j+1)).flatMap fun i => (bnd 1 v l 0).map fun k => (i, k)) acc) (bnd (-1) v l 0)[j] (List.getElem_mem hj) (((bnd (-1) v l 0).drop (j+1)).flatMap fun i => (bnd 1 v l 0).map fun k => (i, k)) (bnd (-1) v l 0) ((j+1 : Nat) : Int) (fun acc' ha => ih (j+1) acc' (by omega) (by omega) ha) j (by rw [w64 (by omega) (by omega)]; omega) _ 0 acc rfl (by omega) (by rw [List.drop_zero]; omega)
    rw [List.drop_zero] at this
    exact this
theorem all_l0 (hlen : ((bnd (-1) v l 0).flatMap fun i => (bnd 1 v l 0).map fun k => (i, k)).length ≤ 1000000) : ∀ (d j : Nat) (acc : List S72), (bnd 0 v l 0).length - j = d → j ≤ (bnd 0 v l 0).length → acc.length ≤ j →
    Ev (fun k => shadow_all.l0 k l v dark (bnd (-1) v l 0) (bnd 1 v l 0) acc (bnd 0 v l 0) ((bnd 0 v l 0).length : Int) j) (goP S72.mk l v dark (pairsD l v) (acc ++ ((bnd 0 v l 0).drop j).map fun i => S72.mk (rd_T70 l i) i i)) := by
  have hbl := bnd_len 0 v l 0
  intro d
  induction d with
  | zero =>
    intro j acc h1 h2 h3
    rw [List.drop_eq_nil_of_le (by omega)]
    refine Ev.succ ?_
    simp only [shadow_all.l0]
    refine Ev.neg (by omega) ?_
    have := all_l1 l v dark hl hR hr _ 0 acc rfl (by omega) (by rw [List.drop_zero]; omega)
    rw [List.drop_zero] at this
    refine this.val ?_
    simp [pairsD]
  | succ d ih =>
    intro j acc h1 h2 h3
    have hj : j < (bnd 0 v l 0).length := by omega
    rw [List.drop_eq_getElem_cons hj, List.map_cons]
    have hrd : rd (bnd 0 v l 0) (j : Int) = (bnd 0 v l 0)[j] := rd_at _ j hj
    obtain ⟨k0, k1, k2, k3, k4⟩ := bnd_at (List.getElem_mem hj)
    refine Ev.succ ?_
    simp only [shadow_all.l0]
    rw [hrd, show wrap64 ((j:Int) + 1) = ((j+1 : Nat) : Int) by rw [w64 (by omega) (by omega)]; omega]
    refine Ev.pos (by omega) (Ev.pos (by omega) (Ev.pos (by omega) (Ev.pos k0 (Ev.pos k1 (Ev.pos (by omega) ?_)))))
    refine (ih (j+1) _ (by omega) (by omega) (by simp; omega)).val ?_
    rw [List.append_assoc]; rfl
end
theorem flat_len (l : List S70) (v : Int) : ((bnd (-1) v l 0).flatMap fun i => (bnd 1 v l 0).map fun k => (i, k)).length = (bnd (-1) v l 0).length * (bnd 1 v l 0).length := by
  rw [List.length_flatMap]
  simp only [List.length_map, List.map_const', List.sum_replicate_nat]
theorem all_ev (l : List S70) (v : Int) (dark : Bool) (hl : l.length ≤ 1000) (hR : ∀ q ∈ l, R64 q.f0.f0 ∧ M64 q.f0.f1) (hm : ∀ q ∈ l, q.f0.f1.length ≤ 9223372036854775807) : Ev (fun k => shadow_all.f k l v dark) (castD S72.mk l v dark) := by
  have b0 := bnd_len 0 v l 0
  have b1 := bnd_len (-1) v l 0
  have b2 := bnd_len 1 v l 0
  have hmul : (bnd (-1) v l 0).length * (bnd 1 v l 0).length ≤ 1000 * 1000 := Nat.mul_le_mul (by omega) (by omega)
  refine Ev.bind (wrong_ev l v (by omega) hm) ?_
  unfold castD
  by_cases w : wrongB l v = true
  · rw [if_pos w]
    exact Ev.pos w (Ev.now fun _ => rfl)
  · rw [if_neg w]
    refine Ev.neg w (Ev.bind (bounds_ev 0 l v (by omega) hm) (Ev.bind (bounds_ev (-1) l v (by omega) hm) (Ev.bind (bounds_ev 1 l v (by omega) hm) ?_)))
    have hcast : ((bnd (-1) v l 0).length : Int) * (bnd 1 v l 0).length = (((bnd (-1) v l 0).length * (bnd 1 v l 0).length : Nat) : Int) := by simp
    have hw : wrap64 (((bnd 0 v l 0).length : Int) + (wrap64 (((bnd (-1) v l 0).length : Int) * ((bnd 1 v l 0).length : Int)))) = ((bnd 0 v l 0).length : Int) + (bnd (-1) v l 0).length * (bnd 1 v l 0).length := by
      rw [hcast]
      generalize (bnd (-1) v l 0).length * (bnd 1 v l 0).length = M at *
      rw [w64 (n := (M : Int)) (by omega) (by omega), w64 (by omega) (by omega)]
    rw [hw]
    by_cases c : ((bnd 0 v l 0).length : Int) + (bnd (-1) v l 0).length * (bnd 1 v l 0).length > 1024
    · rw [if_pos c]
      exact Ev.pos c (Ev.now fun _ => rfl)
    · rw [if_neg c]
      have hr := (wrongB_not (show wrongB l v = false by simpa using w)).2.2
      refine Ev.neg c ?_
      have := all_l0 l v dark hl hR hr (by rw [flat_len]; omega) _ 0 [] rfl (by omega) (by simp)
      rw [List.drop_zero, List.nil_append] at this
      exact this
theorem real_ev (l : List S70) (v : Int) (hl : l.length ≤ 1000) (hR : ∀ q ∈ l, R64 q.f0.f0 ∧ M64 q.f0.f1) (hm : ∀ q ∈ l, q.f0.f1.length ≤ 9223372036854775807) : Ev (fun k => shadow_Real.f k l v) (castD S72.mk l v false) := Ev.bind (all_ev l v false hl hR hm) (Ev.now fun _ => rfl)
theorem dark_ev (l : List S70) (v : Int) (hl : l.length ≤ 1000) (hR : ∀ q ∈ l, R64 q.f0.f0 ∧ M64 q.f0.f1) (hm : ∀ q ∈ l, q.f0.f1.length ≤ 9223372036854775807) : Ev (fun k => shadow_Dark.f k l v) (castD S72.mk l v true) := Ev.bind (all_ev l v true hl hR hm) (Ev.now fun _ => rfl)
theorem many30_l0 (l : List S70) (v : Int) (hl : l.length ≤ 1000) (hr : ∀ q ∈ l, rightL (-1) q.f0.f1 = true) : ∀ (d i : Nat) (a b : Nat), l.length - i = d → i ≤ l.length → a ≤ i → b ≤ i →
    Ev (fun k => sequiturref30_many.l0 k l v a b i) (((a + (bnd (-1) v (l.drop i) i).length : Nat) : Int), ((b + (bnd 1 v (l.drop i) i).length : Nat) : Int)) := by
  intro d
  induction d with
  | zero =>
    intro i a b h1 h2 ha hb
    rw [List.drop_eq_nil_of_le (by omega)]
    refine Ev.succ ?_
    simp only [sequiturref30_many.l0]
    exact Ev.neg (by omega) (Ev.now fun _ => by simp [bnd])
  | succ d ih =>
    intro i a b h1 h2 ha hb
    have hi : i < l.length := by omega
    rw [List.drop_eq_getElem_cons hi]
    refine Ev.succ ?_
    simp only [sequiturref30_many.l0]
    rw [rdI_at l i hi, show wrap64 ((i:Int) + 1) = ((i+1 : Nat) : Int) by rw [w64 (by omega) (by omega)]; omega, show wrap64 ((a:Int) + 1) = ((a+1 : Nat) : Int) by rw [w64 (by omega) (by omega)]; omega, show wrap64 ((b:Int) + 1) = ((b+1 : Nat) : Int) by rw [w64 (by omega) (by omega)]; omega]
    refine Ev.pos (by omega) (Ev.pos (by omega) (Ev.bind (by27_ev l[i].f0.f0 l[i].f0.f1 v (hr _ (List.getElem_mem hi))) ?_))
    simp only [bnd]
    have hc : cf v l[i] = coefI l[i].f0.f1 v := rfl
    rw [hc]
    generalize coefI l[i].f0.f1 v = t
    by_cases c1 : t < 0
    · have s1 : sgD (-1) t = true := by unfold sgD; simp [c1]
      have s2 : ¬ sgD 1 t = true := by unfold sgD; simp; omega
      rw [if_pos s1, if_neg s2]
      refine Ev.pos c1 (Ev.neg (by omega) ((ih (i+1) (a+1) b (by omega) (by omega) (by omega) (by omega)).val ?_))
      simp only [List.length_cons, Prod.mk.injEq]
      exact ⟨by simp; omega, by simp⟩
    · have s1 : ¬ sgD (-1) t = true := by unfold sgD; simp; omega
      rw [if_neg s1]
      by_cases c2 : t > 0
      · have s2 : sgD 1 t = true := by unfold sgD; simp [c2]
        rw [if_pos s2]
        refine Ev.neg c1 (Ev.pos c2 ((ih (i+1) a (b+1) (by omega) (by omega) (by omega) (by omega)).val ?_))
        simp only [List.length_cons, Prod.mk.injEq]
        exact ⟨by simp, by simp; omega⟩
      · have s2 : ¬ sgD 1 t = true := by unfold sgD; simp; omega
        rw [if_neg s2]
        exact Ev.neg c1 (Ev.neg c2 ((ih (i+1) a b (by omega) (by omega) (by omega) (by omega)).val (by simp)))
theorem bnd_three (v : Int) : ∀ (l : List S70) (i : Int), (bnd 0 v l i).length + (bnd (-1) v l i).length + (bnd 1 v l i).length = l.length := by
  intro l
  induction l with
  | nil => intro i; simp [bnd]
  | cons q l ih =>
    intro i
    have := ih (i + 1)
    simp only [bnd]
    generalize cf v q = t
    by_cases c1 : t < 0
    · have s1 : sgD (-1) t = true := by unfold sgD; simp [c1]
      have s2 : ¬ sgD 1 t = true := by unfold sgD; simp; omega
      have s3 : ¬ sgD 0 t = true := by unfold sgD; simp; omega
      rw [if_pos s1, if_neg s2, if_neg s3]; simp; omega
    · have s1 : ¬ sgD (-1) t = true := by unfold sgD; simp; omega
      by_cases c2 : t > 0
      · have s2 : sgD 1 t = true := by unfold sgD; simp [c2]
        have s3 : ¬ sgD 0 t = true := by unfold sgD; simp; omega
        rw [if_neg s1, if_pos s2, if_neg s3]; simp; omega
      · have s2 : ¬ sgD 1 t = true := by unfold sgD; simp; omega
        have s3 : sgD 0 t = true := by unfold sgD; simp; omega
        rw [if_neg s1, if_neg s2, if_pos s3]; simp; omega
section
variable (l : List S70) (v : Int) (dark : Bool) (hl : l.length ≤ 1000) (hR : ∀ q ∈ l, R64 q.f0.f0 ∧ M64 q.f0.f1) (hr : ∀ q ∈ l, q.f1 = false ∧ rightL (-1) q.f0.f1 = true)
include hl hR hr
theorem ref30_l2 (R : List S77 × Int) (i : Nat) (hi : i < l.length) (rest : List (Int × Int)) (HH : ∀ acc : List S77, acc.length + rest.length ≤ 2000000 → Ev (fun k => sequiturref30_Shadow.l1 k l v dark acc ((i+1 : Nat) : Int)) (goP S77.mk l v dark rest acc)) :
    ∀ (d j : Nat) (acc : List S77), l.length - j = d → j ≤ l.length → acc.length + (if cf v l[i] < 0 then (bnd 1 v (l.drop j) j).map fun k => ((i : Int), k) else []).length + rest.length ≤ 2000000 →
    Ev (fun k => sequiturref30_Shadow.l2 k l v dark acc i j) (goP S77.mk l v dark ((if cf v l[i] < 0 then (bnd 1 v (l.drop j) j).map fun k => ((i : Int), k) else []) ++ rest) acc) := by
  have qi := hR _ (List.getElem_mem hi)
  have ri := (hr _ (List.getElem_mem hi)).2
  have hci : cf v l[i] = coefI l[i].f0.f1 v := rfl
  have hrdi : rd_T70 l (i : Int) = l[i] := rdI_at l i hi
  intro d
  induction d with
  | zero =>
    intro j acc h1 h2 h3
    rw [List.drop_eq_nil_of_le (by omega)] at h3 ⊢
    refine Ev.succ ?_
    simp only [sequiturref30_Shadow.l2]
    rw [show wrap64 ((i:Int) + 1) = ((i+1 : Nat) : Int) by rw [w64 (by omega) (by omega)]; omega]
    refine Ev.neg (by omega) ((HH acc (by omega)).val ?_)
    simp [bnd]
  | succ d ih =>
    intro j acc h1 h2 h3
    have hj : j < l.length := by omega
    have qj := hR _ (List.getElem_mem hj)
    have rj := (hr _ (List.getElem_mem hj)).2
    have hcj : cf v l[j] = coefI l[j].f0.f1 v := rfl
    have hrdj : rd_T70 l (j : Int) = l[j] := rdI_at l j hj
    rw [List.drop_eq_getElem_cons hj] at h3 ⊢
    have hskip : Ev (fun k => sequiturref30_Shadow.j3 k l v dark acc i j true) (goP S77.mk l v dark ((if cf v l[i] < 0 then (bnd 1 v (l.drop (j+1)) ((j+1 : Nat) : Int)).map fun k => ((i : Int), k) else []) ++ rest) acc) ∨ ¬ (acc.length + (if cf v l[i] < 0 then (bnd 1 v (l.drop (j+1)) ((j+1 : Nat) : Int)).map fun k => ((i : Int), k) else []).length + rest.length ≤ 2000000) := by
      by_cases hlen : acc.length + (if cf v l[i] < 0 then (bnd 1 v (l.drop (j+1)) ((j+1 : Nat) : Int)).map fun k => ((i : Int), k) else []).length + rest.length ≤ 2000000
      · refine .inl (Ev.succ ?_)
        simp only [sequiturref30_Shadow.j3]
        rw [show wrap64 ((j:Int) + 1) = ((j+1 : Nat) : Int) by rw [w64 (by omega) (by omega)]; omega]
        exact Ev.pos trivial (ih (j+1) acc (by omega) (by omega) hlen)
      · exact .inr hlen
    refine Ev.succ ?_
    simp only [sequiturref30_Shadow.l2]
    rw [hrdi, hrdj]
    refine Ev.pos (by omega) (Ev.pos (by omega) (Ev.pos (by omega) (Ev.bind (by27_ev l[i].f0.f0 l[i].f0.f1 v ri) ?_)))
    by_cases c1 : coefI l[i].f0.f1 v ≥ 0
    · refine Ev.pos c1 ?_
      rw [if_neg (by omega)] at h3 ⊢
      rw [if_neg (by omega)] at hskip
      rcases hskip with h | h
      · exact h
      · exact absurd h3 h
    · refine Ev.neg c1 (Ev.pos (by omega) (Ev.bind (by27_ev l[j].f0.f0 l[j].f0.f1 v rj) ?_))
      rw [if_pos (by omega)] at h3 ⊢
      rw [if_pos (by omega)] at hskip
      simp only [bnd] at h3 ⊢
      by_cases c2 : coefI l[j].f0.f1 v ≤ 0
      · have s2 : ¬ sgD 1 (cf v l[j]) = true := by rw [hcj]; unfold sgD; simp; omega
        rw [if_neg s2] at h3 ⊢
        rw [decide_eq_true c2]
        rcases hskip with h | h
        · exact h
        · exact absurd h3 h
      · have s2 : sgD 1 (cf v l[j]) = true := by rw [hcj]; unfold sgD; simp; omega
        rw [if_pos s2] at h3 ⊢
        rw [decide_eq_false c2]
        simp only [List.map_cons, List.length_cons] at h3
        rw [List.map_cons, List.cons_append]
        have hs := pair_ev (ka := l[i].f0.f0) (kb := l[j].f0.f0) v dark qi.1 qj.1 qi.2 qj.2 ri rj (by omega)
        refine Ev.succ ?_
        simp only [sequiturref30_Shadow.j3]
        rw [hrdi, hrdj, show wrap64 ((j:Int) + 1) = ((j+1 : Nat) : Int) by rw [w64 (by omega) (by omega)]; omega]
        refine Ev.neg (by simp) (Ev.pos (by omega) (Ev.pos (by omega) (Ev.pos (by omega) (Ev.pos (by omega) (Ev.bind hs ?_)))))
        simp only [goP]
        rw [hrdi, hrdj, hci, hcj]
        by_cases c : (shadeD l[i].f0.f0 l[i].f0.f1 l[j].f0.f0 l[j].f0.f1 (coefI l[i].f0.f1 v) (coefI l[j].f0.f1 v) dark).2.2 = true
        · rw [if_pos c]
          refine Ev.pos c (Ev.pos (by omega) ?_)
          have := ih (j+1) (acc ++ [S77.mk ⟨⟨(shadeD l[i].f0.f0 l[i].f0.f1 l[j].f0.f0 l[j].f0.f1 (coefI l[i].f0.f1 v) (coefI l[j].f0.f1 v) dark).1, (shadeD l[i].f0.f0 l[i].f0.f1 l[j].f0.f0 l[j].f0.f1 (coefI l[i].f0.f1 v) (coefI l[j].f0.f1 v) dark).2.1⟩, false⟩ i j]) (by omega) (by omega) (by
            rw [if_pos (by omega)]
            simp only [List.length_append, List.length_cons, List.length_nil]
            have e : ((j + 1 : Nat) : Int) = (j : Int) + 1 := by omega
            rw [e]; omega)
          rw [if_pos (by omega)] at this
          exact this
        · rw [if_neg c]
          exact Ev.neg c (Ev.now fun _ => rfl)
/-- The pairs from a place on. -/
def pairsFrom (l : List S70) (v : Int) : List S70 → Int → List (Int × Int)
  | [], _ => []
  | q :: t, i => (if cf v q < 0 then (bnd 1 v l 0).map fun k => (i, k) else []) ++ pairsFrom l v t (i + 1)
omit hl hR hr in
theorem pairsFrom_eq : ∀ (t : List S70) (i : Int), pairsFrom l v t i = (bnd (-1) v t i).flatMap fun i => (bnd 1 v l 0).map fun k => (i, k) := by
  intro t
  induction t with
  | nil => intro i; rfl
  | cons q t ih =>
    intro i
    simp only [pairsFrom, bnd]
    rw [ih]
    by_cases c : cf v q < 0
    · rw [if_pos c, if_pos (by unfold sgD; simp [c]), List.flatMap_cons]
    · rw [if_neg c, if_neg (by unfold sgD; simp; omega), List.nil_append]
theorem ref30_l1 : ∀ (d i : Nat) (acc : List S77), l.length - i = d → i ≤ l.length → acc.length + (pairsFrom l v (l.drop i) i).length ≤ 2000000 →
    Ev (fun k => sequiturref30_Shadow.l1 k l v dark acc i) (goP S77.mk l v dark (pairsFrom l v (l.drop i) i) acc) := by
  intro d
  induction d with
  | zero =>
    intro i acc h1 h2 h3
    rw [List.drop_eq_nil_of_le (by omega)]
    refine Ev.succ ?_
    simp only [sequiturref30_Shadow.l1]
    exact Ev.neg (by omega) (Ev.now fun _ => rfl)
  | succ d ih =>
    intro i acc h1 h2 h3
    have hi : i < l.length := by omega
    rw [List.drop_eq_getElem_cons hi] at h3 ⊢
    simp only [pairsFrom, List.length_append] at h3 ⊢
    have e : ((i + 1 : Nat) : Int) = (i : Int) + 1 := by omega
    refine Ev.succ ?_
    simp only [sequiturref30_Shadow.l1]
    refine Ev.pos (by omega) ?_
    have := ref30_l2 l v dark hl hR hr (goP S77.mk l v dark (pairsFrom l v (l.drop (i+1)) ((i+1 : Nat) : Int)) acc) i hi (pairsFrom l v (l.drop (i+1)) ((i+1 : Nat) : Int)) (fun acc' ha => ih (i+1) acc' (by omega) (by omega) ha) _ 0 acc rfl (by omega) (by rw [List.drop_zero, e]; exact (by simpa [Nat.add_assoc] using h3))
    rw [List.drop_zero, e] at this
    exact this
theorem ref30_l0 (hlen : (pairsD l v).length ≤ 1000000) : ∀ (d i : Nat) (acc : List S77), l.length - i = d → i ≤ l.length → acc.length ≤ i →
    Ev (fun k => sequiturref30_Shadow.l0 k l v dark acc i) (goP S77.mk l v dark (pairsD l v) (acc ++ (bnd 0 v (l.drop i) i).map fun i => S77.mk (rd_T70 l i) i i)) := by
  intro d
  induction d with
  | zero =>
    intro i acc h1 h2 h3
    rw [List.drop_eq_nil_of_le (by omega)]
    have hp : pairsFrom l v (l.drop 0) ((0 : Nat) : Int) = pairsD l v := by rw [List.drop_zero, pairsFrom_eq]; rfl
    have := ref30_l1 l v dark hl hR hr _ 0 acc rfl (by omega) (by rw [hp]; omega)
    rw [hp] at this
    refine Ev.succ ?_
    simp only [sequiturref30_Shadow.l0]
    refine Ev.neg (by omega) (this.val ?_)
    simp [bnd]
  | succ d ih =>
    intro i acc h1 h2 h3
    have hi : i < l.length := by omega
    have ri := (hr _ (List.getElem_mem hi)).2
    have hrdi : rd_T70 l (i : Int) = l[i] := rdI_at l i hi
    have hci : cf v l[i] = coefI l[i].f0.f1 v := rfl
    have e : ((i + 1 : Nat) : Int) = (i : Int) + 1 := by omega
    rw [List.drop_eq_getElem_cons hi]
    refine Ev.succ ?_
    simp only [sequiturref30_Shadow.l0]
    rw [hrdi, show wrap64 ((i:Int) + 1) = ((i+1 : Nat) : Int) by rw [w64 (by omega) (by omega)]; omega]
    refine Ev.pos (by omega) (Ev.pos (by omega) (Ev.bind (by27_ev l[i].f0.f0 l[i].f0.f1 v ri) ?_))
    simp only [bnd]
    by_cases c : coefI l[i].f0.f1 v = 0
    · have s : sgD 0 (cf v l[i]) = true := by rw [hci, c]; rfl
      rw [if_pos s]
      refine Ev.pos c (Ev.pos (by omega) ((ih (i+1) _ (by omega) (by omega) (by simp; omega)).val ?_))
      rw [List.map_cons, hrdi, e, List.append_assoc]; rfl
    · have s : ¬ sgD 0 (cf v l[i]) = true := by rw [hci]; unfold sgD; simp; omega
      rw [if_neg s]
      refine Ev.neg c ((ih (i+1) acc (by omega) (by omega) (by omega)).val ?_)
      rw [e]
end
theorem refShadow_ev (l : List S70) (v : Int) (dark : Bool) (hl : l.length ≤ 1000) (hR : ∀ q ∈ l, R64 q.f0.f0 ∧ M64 q.f0.f1) (hm : ∀ q ∈ l, q.f0.f1.length ≤ 9223372036854775807) : Ev (fun k => sequiturref30_Shadow.f k l v dark) (castD S77.mk l v dark) := by
  have b0 := bnd_len 0 v l 0
  have b1 := bnd_len (-1) v l 0
  have b2 := bnd_len 1 v l 0
  have b3 := bnd_three v l 0
  have hmul : (bnd (-1) v l 0).length * (bnd 1 v l 0).length ≤ 1000 * 1000 := Nat.mul_le_mul (by omega) (by omega)
  refine Ev.bind (right30_ev l v (by omega) hm) ?_
  unfold castD
  by_cases w : wrongB l v = true
  · rw [if_pos w]
    exact Ev.neg (by simp [w]) (Ev.now fun _ => rfl)
  · rw [if_neg w]
    have hr := (wrongB_not (show wrongB l v = false by simpa using w)).2.2
    have hmany := many30_l0 l v hl (fun q hq => (hr q hq).2) _ 0 0 0 rfl (by omega) (by omega) (by omega)
    rw [List.drop_zero, Nat.zero_add, Nat.zero_add] at hmany
    refine Ev.pos (by simpa using w) (Ev.bind hmany ?_)
    have hcast : ((bnd (-1) v l 0).length : Int) * (bnd 1 v l 0).length = (((bnd (-1) v l 0).length * (bnd 1 v l 0).length : Nat) : Int) := by simp
    have hw : wrap64 ((wrap64 ((wrap64 ((l.length : Int) - ((bnd (-1) v l ((0 : Nat) : Int)).length : Nat))) - ((bnd 1 v l ((0 : Nat) : Int)).length : Nat))) + (wrap64 (((bnd (-1) v l ((0 : Nat) : Int)).length : Nat) * ((bnd 1 v l ((0 : Nat) : Int)).length : Nat)))) = ((bnd 0 v l 0).length : Int) + (bnd (-1) v l 0).length * (bnd 1 v l 0).length := by
      show wrap64 ((wrap64 ((wrap64 ((l.length : Int) - ((bnd (-1) v l 0).length : Nat))) - ((bnd 1 v l 0).length : Nat))) + (wrap64 (((bnd (-1) v l 0).length : Int) * ((bnd 1 v l 0).length : Int)))) = _
      rw [hcast]
      generalize (bnd (-1) v l 0).length * (bnd 1 v l 0).length = M at *
      rw [w64 (n := (M : Int)) (by omega) (by omega), w64 (n := (l.length : Int) - _) (by omega) (by omega), w64 (n := (l.length : Int) - _ - _) (by omega) (by omega), w64 (by omega) (by omega)]
      omega
    simp only
    rw [hw]
    by_cases c : ((bnd 0 v l 0).length : Int) + (bnd (-1) v l 0).length * (bnd 1 v l 0).length > 1024
    · rw [if_pos c]
      exact Ev.pos c (Ev.now fun _ => rfl)
    · rw [if_neg c]
      refine Ev.neg c ?_
      have := ref30_l0 l v dark hl hR hr (by unfold pairsD; rw [flat_len]; omega) _ 0 [] rfl (by omega) (by simp)
      rw [List.drop_zero, List.nil_append] at this
      exact this
theorem bnd_map (s v : Int) (l : List S70) : ∀ (d i : Nat), l.length - i = d → i ≤ l.length → (bnd s v (l.drop i) i).map (rd_T70 l) = (l.drop i).filter fun q => sgD s (cf v q) := by
  intro d
  induction d with
  | zero => intro i h1 h2; rw [List.drop_eq_nil_of_le (by omega)]; rfl
  | succ d ih =>
    intro i h1 h2
    have hi : i < l.length := by omega
    rw [List.drop_eq_getElem_cons hi, List.filter_cons]
    have e : ((i + 1 : Nat) : Int) = (i : Int) + 1 := by omega
    have hI := ih (i+1) (by omega) (by omega)
    rw [e] at hI
    simp only [bnd]
    by_cases c : sgD s (cf v l[i]) = true
    · rw [if_pos c, if_pos c, List.map_cons, rdI_at l i hi, hI]
    · rw [if_neg c, if_neg c, hI]
theorem bnd_filter (s v : Int) (l : List S70) : (bnd s v l 0).map (rd_T70 l) = l.filter fun q => sgD s (cf v q) := by
  have := bnd_map s v l _ 0 rfl (by omega)
  rwa [List.drop_zero] at this
def exD (l : List S70) (v : Int) : Bool := !((l.any fun q => decide (cf v q < -1)) && l.any fun q => decide (cf v q > 1))
section
variable (l : List S70) (v : Int) (hl : l.length ≤ 1000) (hm : ∀ q ∈ l, q.f0.f1.length ≤ 1000000)
include hl hm
theorem exact_l1 (R : Bool) (i : Int) (hi : i ∈ bnd (-1) v l 0) (L : List Int) (n p : Int) (HH : Ev (fun k => shadow_Exact.l0 k l v L n (wrap64 (p + 1)) l v) R) : ∀ (d j : Nat), (bnd 1 v l 0).length - j = d → j ≤ (bnd 1 v l 0).length →
    Ev (fun k => shadow_Exact.l1 k l v i L n p (bnd 1 v l 0) ((bnd 1 v l 0).length : Int) j l v) (if (decide (cf v (rd_T70 l i) ≠ -1) && ((bnd 1 v l 0).drop j).any fun k => decide (cf v (rd_T70 l k) ≠ 1)) = true then false else R) := by
  have hbl := bnd_len 1 v l 0
  obtain ⟨i0, i1, i2, i3, i4⟩ := bnd_at hi
  have mi := hm _ (List.getElem_mem i2)
  rw [← i3] at mi
  intro d
  induction d with
  | zero =>
    intro j h1 h2
    rw [List.drop_eq_nil_of_le (by omega)]
    refine Ev.succ ?_
    simp only [shadow_Exact.l1]
    exact Ev.neg (by omega) (HH.val (by simp))
  | succ d ih =>
    intro j h1 h2
    have hj : j < (bnd 1 v l 0).length := by omega
    obtain ⟨k0, k1, k2, k3, k4⟩ := bnd_at (List.getElem_mem hj)
    have mk := hm _ (List.getElem_mem k2)
    rw [← k3] at mk
    have hrd : rd (bnd 1 v l 0) (j : Int) = (bnd 1 v l 0)[j] := rd_at _ j hj
    have hI := ih (j+1) (by omega) (by omega)
    rw [List.drop_eq_getElem_cons hj, List.any_cons]
    refine Ev.succ ?_
    simp only [shadow_Exact.l1]
    rw [hrd, show wrap64 ((j:Int) + 1) = ((j+1 : Nat) : Int) by rw [w64 (by omega) (by omega)]; omega]
    refine Ev.pos (by omega) (Ev.pos (by omega) (Ev.pos (by omega) (Ev.pos i0 (Ev.pos i1 (Ev.bind (linBy_ev (rd_T70 l i).f0.f0 (rd_T70 l i).f0.f1 v (by omega)) ?_)))))
    by_cases c1 : coefI (rd_T70 l i).f0.f1 v = -1
    · refine (Ev.pos c1 hI).val ?_
      rw [decide_eq_false (show ¬ cf v (rd_T70 l i) ≠ -1 from fun h => h c1)]; simp
    · refine Ev.neg c1 (Ev.pos k0 (Ev.pos k1 (Ev.bind (linBy_ev (rd_T70 l (bnd 1 v l 0)[j]).f0.f0 (rd_T70 l (bnd 1 v l 0)[j]).f0.f1 v (by omega)) ?_)))
      by_cases c2 : coefI (rd_T70 l (bnd 1 v l 0)[j]).f0.f1 v = 1
      · refine (Ev.pos c2 hI).val ?_
        rw [decide_eq_false (show ¬ cf v (rd_T70 l (bnd 1 v l 0)[j]) ≠ 1 from fun h => h c2), Bool.false_or]
      · refine Ev.neg c2 (Ev.now fun _ => ?_)
        rw [decide_eq_true (show cf v (rd_T70 l i) ≠ -1 from c1), decide_eq_true (show cf v (rd_T70 l (bnd 1 v l 0)[j]) ≠ 1 from c2)]; rfl
theorem exact_l0 : ∀ (d j : Nat), (bnd (-1) v l 0).length - j = d → j ≤ (bnd (-1) v l 0).length →
    Ev (fun k => shadow_Exact.l0 k l v (bnd (-1) v l 0) ((bnd (-1) v l 0).length : Int) j l v) (!((((bnd (-1) v l 0).drop j).any fun i => decide (cf v (rd_T70 l i) ≠ -1)) && (bnd 1 v l 0).any fun k => decide (cf v (rd_T70 l k) ≠ 1))) := by
  have hbl := bnd_len (-1) v l 0
  intro d
  induction d with
  | zero =>
    intro j h1 h2
    rw [List.drop_eq_nil_of_le (by omega)]
    refine Ev.succ ?_
    simp only [shadow_Exact.l0]
    exact Ev.neg (by omega) (Ev.now fun _ => by simp)
  | succ d ih =>
    intro j h1 h2
    have hj : j < (bnd (-1) v l 0).length := by omega
    have hrd : rd (bnd (-1) v l 0) (j : Int) = (bnd (-1) v l 0)[j] := rd_at _ j hj
    have hI := ih (j+1) (by omega) (by omega)
    rw [List.drop_eq_getElem_cons hj, List.any_cons]
    refine Ev.succ ?_
    simp only [shadow_Exact.l0]
    rw [hrd]
    refine Ev.pos (by omega) (Ev.pos (by omega) (Ev.pos (by omega) (Ev.bind (bounds_ev 1 l v (by omega) (fun q hq => Nat.le_trans (hm q hq) (by decide))) ?_)))
    have := exact_l1 l v hl hm _ (bnd (-1) v l 0)[j] (List.getElem_mem hj) (bnd (-1) v l 0) ((bnd (-1) v l 0).length : Int) j (by rw [show wrap64 ((j:Int) + 1) = ((j+1 : Nat) : Int) by rw [w64 (by omega) (by omega)]; omega]; exact hI) _ 0 rfl (by omega)
    rw [List.drop_zero] at this
    refine this.val ?_
    generalize decide (cf v (rd_T70 l (bnd (-1) v l 0)[j]) ≠ -1) = x
    generalize ((bnd 1 v l 0).any fun k => decide (cf v (rd_T70 l k) ≠ 1)) = y
    generalize (((bnd (-1) v l 0).drop (j+1)).any fun i => decide (cf v (rd_T70 l i) ≠ -1)) = z
    cases x <;> cases y <;> cases z <;> rfl
theorem exact_ev : Ev (fun k => shadow_Exact.f k l v) (exD l v) := by
  have h := exact_l0 l v hl hm _ 0 rfl (by omega)
  rw [List.drop_zero] at h
  refine Ev.bind (bounds_ev (-1) l v (by omega) (fun q hq => Nat.le_trans (hm q hq) (by decide))) (h.val ?_)
  unfold exD
  have e1 : ((bnd (-1) v l 0).any fun i => decide (cf v (rd_T70 l i) ≠ -1)) = l.any fun q => decide (cf v q < -1) := by
    have : ((bnd (-1) v l 0).any fun i => decide (cf v (rd_T70 l i) ≠ -1)) = ((bnd (-1) v l 0).map (rd_T70 l)).any fun q => decide (cf v q ≠ -1) := by rw [List.any_map]; rfl
    rw [this, bnd_filter, List.any_filter]
    congr 1
    funext q
    generalize cf v q = t
    unfold sgD
    by_cases c : t < -1
    · rw [decide_eq_true c]; simp; omega
    · rw [decide_eq_false c]; simp; omega
  have e2 : ((bnd 1 v l 0).any fun k => decide (cf v (rd_T70 l k) ≠ 1)) = l.any fun q => decide (cf v q > 1) := by
    have : ((bnd 1 v l 0).any fun i => decide (cf v (rd_T70 l i) ≠ 1)) = ((bnd 1 v l 0).map (rd_T70 l)).any fun q => decide (cf v q ≠ 1) := by rw [List.any_map]; rfl
    rw [this, bnd_filter, List.any_filter]
    congr 1
    funext q
    generalize cf v q = t
    unfold sgD
    by_cases c : t > 1
    · rw [decide_eq_true c]; simp; omega
    · rw [decide_eq_false c]; simp; omega
  rw [e1, e2]
theorem refExact_l1 (R : Bool) (i : Nat) (hi : i < l.length) (HH : Ev (fun k => sequiturref30_Exact.l0 k l v ((i+1 : Nat) : Int)) R) : ∀ (d j : Nat), l.length - j = d → j ≤ l.length →
    Ev (fun k => sequiturref30_Exact.l1 k l v i j) (if (decide (cf v l[i] < -1) && (l.drop j).any fun q => decide (cf v q > 1)) = true then false else R) := by
  intro d
  induction d with
  | zero =>
    intro j h1 h2
    rw [List.drop_eq_nil_of_le (by omega)]
    refine Ev.succ ?_
    simp only [sequiturref30_Exact.l1]
    rw [show wrap64 ((i:Int) + 1) = ((i+1 : Nat) : Int) by rw [w64 (by omega) (by omega)]; omega]
    exact Ev.neg (by omega) (HH.val (by simp))
  | succ d ih =>
    intro j h1 h2
    have hj : j < l.length := by omega
    have hI := ih (j+1) (by omega) (by omega)
    rw [List.drop_eq_getElem_cons hj, List.any_cons]
    refine Ev.succ ?_
    simp only [sequiturref30_Exact.l1]
    rw [rdI_at l i hi, rdI_at l j hj, show wrap64 ((j:Int) + 1) = ((j+1 : Nat) : Int) by rw [w64 (by omega) (by omega)]; omega]
    refine Ev.pos (by omega) (Ev.pos (by omega) (Ev.pos (by omega) (Ev.bind (by27g_ev l[i].f0.f0 l[i].f0.f1 v (hm _ (List.getElem_mem hi))) ?_)))
    by_cases c1 : coefI l[i].f0.f1 v < -1
    · rw [decide_eq_true (show cf v l[i] < -1 from c1), Bool.true_and] at hI ⊢
      refine Ev.pos c1 (Ev.pos (by omega) (Ev.bind (by27g_ev l[j].f0.f0 l[j].f0.f1 v (hm _ (List.getElem_mem hj))) ?_))
      by_cases c2 : coefI l[j].f0.f1 v > 1
      · refine Ev.pos c2 (Ev.now fun _ => ?_)
        rw [decide_eq_true (show cf v l[j] > 1 from c2)]; simp
      · refine (Ev.neg c2 hI).val ?_
        rw [decide_eq_false (show ¬ cf v l[j] > 1 from c2), Bool.false_or]
    · rw [decide_eq_false (show ¬ cf v l[i] < -1 from c1), Bool.false_and] at hI ⊢
      exact Ev.neg c1 hI
theorem refExact_l0 : ∀ (d i : Nat), l.length - i = d → i ≤ l.length →
    Ev (fun k => sequiturref30_Exact.l0 k l v i) (!(((l.drop i).any fun q => decide (cf v q < -1)) && l.any fun q => decide (cf v q > 1))) := by
  intro d
  induction d with
  | zero =>
    intro i h1 h2
    rw [List.drop_eq_nil_of_le (by omega)]
    refine Ev.succ ?_
    simp only [sequiturref30_Exact.l0]
    exact Ev.neg (by omega) (Ev.now fun _ => by simp)
  | succ d ih =>
    intro i h1 h2
    have hi : i < l.length := by omega
    rw [List.drop_eq_getElem_cons hi, List.any_cons]
    refine Ev.succ ?_
    simp only [sequiturref30_Exact.l0]
    refine Ev.pos (by omega) ?_
    have := refExact_l1 l v hl hm _ i hi (ih (i+1) (by omega) (by omega)) _ 0 rfl (by omega)
    rw [List.drop_zero] at this
    refine this.val ?_
    generalize decide (cf v l[i] < -1) = x
    generalize (l.any fun q => decide (cf v q > 1)) = y
    generalize ((l.drop (i+1)).any fun q => decide (cf v q < -1)) = z
    cases x <;> cases y <;> cases z <;> rfl
theorem refExact_ev : Ev (fun k => sequiturref30_Exact.f k l v) (exD l v) := by
  have := refExact_l0 l v hl hm _ 0 rfl (by omega)
  rw [List.drop_zero] at this
  exact this
end
open Go.ChangeShapes Go.WideShapes
theorem list_of {α : Type} (n : Nat) (p : Nat → α → Prop) (h : ∀ i, i < n → ∃ x, p i x) : ∃ l : List α, l.length = n ∧ ∀ i x, l[i]? = some x → p i x := by
  induction n with
  | zero => exact ⟨[], rfl, by simp⟩
  | succ n ih =>
    obtain ⟨l, hl, hp⟩ := ih (fun i hi => h i (by omega))
    obtain ⟨x, hx⟩ := h n (by omega)
    refine ⟨l ++ [x], by simp [hl], fun i y hy => ?_⟩
    rcases Nat.lt_or_ge i n with q | q
    · rw [List.getElem?_append_left (by omega)] at hy; exact hp i y hy
    · rw [List.getElem?_append_right (by omega)] at hy
      have : i - l.length = 0 := by
        rcases Nat.eq_zero_or_pos (i - l.length) with e | e
        · exact e
        · rw [List.getElem?_eq_none (by simp; omega)] at hy; cases hy
      rw [this] at hy
      obtain rfl : x = y := by simpa using hy
      rw [show i = n by omega]; exact hx
/-- An argument that is a slice, opened: a list of what its elements are. -/
theorem open_row {H : Type} {enc : TypeId × Value → H} {W : World} {held : Bool} {α : Type} (d : Kd α) (Q : α → Prop) {t e : TypeId} {spare : Nat → Bool} {fuel : Nat} {A : Option Addr} {n c : Nat} {x : DataW H × List MemPlace}
    (ht : Try.prog.underlying t = some (.slice e)) (hsz : Try.prog.cellsOf e = d.sz)
    (ho : ∀ m cs y, DataW.trod enc Try.prog W 0 spare held m e cs = some y → ∃ x, d.K W x cs ∧ Q x)
    (h : DataW.trod enc Try.prog W 0 spare held fuel t [.slice A n c] = some x) :
    ∃ l : List α, l.length = n ∧ n ≤ c ∧ c ≤ maxLen ∧ d.C W A n l ∧ ∀ x ∈ l, Q x := by
  rcases Go.Deep.open_slice ht h with ⟨hcs, _⟩ | ⟨a, len, cap, m, n', D, Pl, hcs, _, hl, hm, hmm, _, hi⟩
  · simp at hcs
    obtain ⟨rfl, rfl, rfl⟩ := hcs
    exact ⟨[], rfl, Nat.le_refl _, Nat.zero_le _, Kd.C_nil d W, by simp⟩
  · simp at hcs
    obtain ⟨rfl, rfl, rfl⟩ := hcs
    have hmn : n ≤ m := by rw [hmm]; split <;> omega
    obtain ⟨l, h1, h2⟩ := list_of n (fun i x => (∃ cs, cs.length = d.sz ∧ d.K W x cs ∧ ∀ j u, cs[j]? = some u → W.cell? (a.add (i * d.sz + j)) = some u) ∧ Q x) (fun i hin => by
      obtain ⟨cs, hc, hx⟩ := hi i (by omega)
      obtain ⟨x, hK, hQ⟩ := ho _ _ _ hx
      obtain ⟨_, hlen, hat⟩ := World.cells?_some hc
      refine ⟨x, ⟨cs, hlen.trans hsz, hK, fun j u hj => ?_⟩, hQ⟩
      have hjl : j < cs.length := by
        rcases Nat.lt_or_ge j cs.length with q | q
        · exact q
        · rw [List.getElem?_eq_none q] at hj; cases hj
      rw [← hj, ← hat j (by omega), hsz, Go.Deep.add_add])
    refine ⟨l, h1, hl, hm, ⟨h1, ?_, fun _ => ⟨a, rfl, fun j p hj => (h2 j p hj).1⟩⟩, fun x hx => ?_⟩
    · have : maxLen = 9223372036854775807 := rfl
      omega
    · obtain ⟨i, hi', he⟩ := List.getElem_of_mem hx
      exact (h2 i x (by rw [List.getElem?_eq_getElem hi', he])).2
/-- A monomial's cells. -/
theorem open_mono {H : Type} {enc : TypeId × Value → H} {W : World} {held : Bool} {spare : Nat → Bool} {m : Nat} (cs : List Value) (y : DataW H × List MemPlace) (h : DataW.trod enc Try.prog W 0 spare held m 68 cs = some y) :
    ∃ x : S68, k68.K W x cs ∧ ((-9223372036854775808 ≤ x.f0 ∧ x.f0 ≤ 9223372036854775807) ∧ -9223372036854775808 ≤ x.f1 ∧ x.f1 ≤ 9223372036854775807) := by
  obtain ⟨y0, y1, n, _, hl, h0, h1⟩ := trod_struct2 Try.underlying68 h
  have e0 : Try.prog.cellsOf 3 = 1 := by kernel_rfl
  have e1 : Try.prog.cellsOf 2 = 1 := by kernel_rfl
  have e2 : Try.prog.cellsOf 68 = 2 := by kernel_rfl
  simp only [e0, e1] at h0 h1
  rw [e2] at hl
  match cs, hl with
  | [c0, c1], _ =>
    obtain ⟨a, ha, _, hw⟩ := DataW.trod_int Try.underlying3 h0
    obtain ⟨b, hb, _, hw2⟩ := DataW.trod_int Try.underlying2 h1
    simp at ha hb
    subst ha hb
    exact ⟨⟨a, b⟩, k68_mk W ⟨a, b⟩, wf64 hw, wf64 hw2⟩
/-- A form's cells. -/
theorem open_lin {H : Type} {enc : TypeId × Value → H} {W : World} {held : Bool} {spare : Nat → Bool} {m : Nat} (cs : List Value) (y : DataW H × List MemPlace) (h : DataW.trod enc Try.prog W 0 spare held m 62 cs = some y) :
    ∃ (x : S62) (A : Option Addr) (c : Nat), cs = [.int .i64 x.f0, .slice A x.f1.length c] ∧ x.f1.length ≤ c ∧ c ≤ maxLen ∧ Kd.C k68 W A x.f1.length x.f1 ∧ R64 x.f0 ∧ M64 x.f1 := by
  obtain ⟨y0, y1, n, _, hl, h0, h1⟩ := trod_struct2 Try.underlying62 h
  have e1 : Try.prog.cellsOf 2 = 1 := by kernel_rfl
  have e0 : Try.prog.cellsOf 60 = 1 := by kernel_rfl
  have e2 : Try.prog.cellsOf 62 = 2 := by kernel_rfl
  simp only [e0, e1] at h0 h1
  rw [e2] at hl
  match cs, hl with
  | [c0, c1], _ =>
    obtain ⟨a, ha, _, hw⟩ := DataW.trod_int Try.underlying2 h0
    simp at ha
    subst ha
    have h2 : DataW.trod enc Try.prog W 0 spare held n 60 [c1] = some y1 := h1
    have hs : ∃ A n c, c1 = .slice A n c := by
      rcases Go.Deep.open_slice Try.underlying60 h2 with ⟨hcs, _⟩ | ⟨a, len, cap, m, n', D, Pl, hcs, _⟩
      · simp at hcs; exact ⟨_, _, _, hcs⟩
      · simp at hcs; exact ⟨_, _, _, hcs⟩
    obtain ⟨A, len, c, rfl⟩ := hs
    obtain ⟨l, rfl, hc, hm, hC, hQ⟩ := open_row k68 _ Try.underlying60 (by kernel_rfl) (fun _ cs y h => open_mono cs y h) h2
    exact ⟨⟨a, l⟩, A, c, rfl, hc, hm, hC, wf64 hw, hQ⟩
/-- An inequality's cells. -/
theorem open_ineq {H : Type} {enc : TypeId × Value → H} {W : World} {held : Bool} {spare : Nat → Bool} {m : Nat} (cs : List Value) (y : DataW H × List MemPlace) (h : DataW.trod enc Try.prog W 0 spare held m 70 cs = some y) :
    ∃ (x : S70) (A : Option Addr) (c : Nat), cs = [.int .i64 x.f0.f0, .slice A x.f0.f1.length c, .bool x.f1] ∧ x.f0.f1.length ≤ c ∧ c ≤ maxLen ∧ Kd.C k68 W A x.f0.f1.length x.f0.f1 ∧ R64 x.f0.f0 ∧ M64 x.f0.f1 := by
  obtain ⟨y0, y1, n, _, hl, h0, h1⟩ := trod_struct2 Try.underlying70 h
  have e1 : Try.prog.cellsOf 4 = 1 := by kernel_rfl
  have e0 : Try.prog.cellsOf 62 = 2 := by kernel_rfl
  have e2 : Try.prog.cellsOf 70 = 3 := by kernel_rfl
  simp only [e0, e1] at h0 h1
  rw [e2] at hl
  match cs, hl with
  | [c0, c1, c2], _ =>
    obtain ⟨b, hb, _⟩ := DataW.trod_bool Try.underlying4 h1
    simp at hb
    subst hb
    obtain ⟨x, A, c, hcs, hc, hm, hC, hr, hM⟩ := open_lin _ _ h0
    simp at hcs
    obtain ⟨rfl, rfl⟩ := hcs
    exact ⟨⟨x, b⟩, A, c, rfl, hc, hm, hC, hr, hM⟩
def Q30 (x : S70) : Prop := R64 x.f0.f0 ∧ M64 x.f0.f1 ∧ x.f0.f1.length ≤ maxLen
theorem open_ineqK {H : Type} {enc : TypeId × Value → H} {W : World} {held : Bool} {spare : Nat → Bool} {m : Nat} (cs : List Value) (y : DataW H × List MemPlace) (h : DataW.trod enc Try.prog W 0 spare held m 70 cs = some y) :
    ∃ x : S70, k70.K W x cs ∧ Q30 x := by
  obtain ⟨x, A, c, rfl, hc, hm, hC, hr, hM⟩ := open_ineq cs y h
  exact ⟨x, k70_mk W x hc hC, hr, hM, Nat.le_trans hc hm⟩
def tup (q : S70) (i k : Int) : S70 × Int × Int := (q, i, k)
theorem goP_map {β : Type} (mk : S70 → Int → Int → β) (l : List S70) (v : Int) (dark : Bool) : ∀ (ps : List (Int × Int)) (acc : List (S70 × Int × Int)),
    goP mk l v dark ps (acc.map fun t => mk t.1 t.2.1 t.2.2) = ((goP tup l v dark ps acc).1.map fun t => mk t.1 t.2.1 t.2.2, (goP tup l v dark ps acc).2) := by
  intro ps
  induction ps with
  | nil => intro acc; rfl
  | cons p ps ih =>
    intro acc
    simp only [goP]
    split
    · rw [← ih, List.map_append]; rfl
    · rfl
theorem castD_map {β : Type} (mk : S70 → Int → Int → β) (l : List S70) (v : Int) (dark : Bool) : castD mk l v dark = ((castD tup l v dark).1.map fun t => mk t.1 t.2.1 t.2.2, (castD tup l v dark).2) := by
  unfold castD
  split
  · rfl
  · split
    · rfl
    · rw [← goP_map]
      congr 1
      unfold nonesD
      rw [List.map_map]; rfl
theorem goP_fine (l : List S70) (v : Int) (dark : Bool) : ∀ (ps : List (Int × Int)) (acc : List (S70 × Int × Int)), (∀ t ∈ acc, t.1.f0.f1.length ≤ 1000000) →
    (∀ t ∈ (goP tup l v dark ps acc).1, t.1.f0.f1.length ≤ 1000000) ∧ (goP tup l v dark ps acc).1.length ≤ acc.length + ps.length := by
  intro ps
  induction ps with
  | nil => intro acc h; exact ⟨h, by simp [goP]⟩
  | cons p ps ih =>
    intro acc h
    simp only [goP]
    split
    · have := ih (acc ++ [tup ⟨⟨(shadeD (rd_T70 l p.1).f0.f0 (rd_T70 l p.1).f0.f1 (rd_T70 l p.2).f0.f0 (rd_T70 l p.2).f0.f1 (cf v (rd_T70 l p.1)) (cf v (rd_T70 l p.2)) dark).1, (shadeD (rd_T70 l p.1).f0.f0 (rd_T70 l p.1).f0.f1 (rd_T70 l p.2).f0.f0 (rd_T70 l p.2).f0.f1 (cf v (rd_T70 l p.1)) (cf v (rd_T70 l p.2)) dark).2.1⟩, false⟩ p.1 p.2]) (by
        intro t ht
        rcases List.mem_append.1 ht with ht | ht
        · exact h t ht
        · simp at ht
          subst ht
          exact Nat.le_trans (linOf_len (fun i => (fitR (shC (rd_T70 l p.1).f0.f1 (rd_T70 l p.2).f0.f1 (cf v (rd_T70 l p.1)) (cf v (rd_T70 l p.2)) i)).1) 64) (show 64 ≤ 1000000 by decide))
      refine ⟨this.1, Nat.le_trans this.2 ?_⟩
      simp; omega
    · exact ⟨fun t ht => by simp at ht, by simp⟩
theorem castD_fine (l : List S70) (v : Int) (dark : Bool) (hm : ∀ q ∈ l, q.f0.f1.length ≤ 1000000) : (∀ t ∈ (castD tup l v dark).1, t.1.f0.f1.length ≤ 1000000) ∧ (castD tup l v dark).1.length ≤ 2000000 := by
  unfold castD
  split
  · exact ⟨fun t ht => by simp at ht, by simp⟩
  · split
    · exact ⟨fun t ht => by simp at ht, by simp⟩
    · rename_i c
      have hn : ∀ t ∈ nonesD tup l v, t.1.f0.f1.length ≤ 1000000 := by
        intro t ht
        unfold nonesD at ht
        obtain ⟨i, hi, rfl⟩ := List.mem_map.1 ht
        obtain ⟨_, _, h2, h3, _⟩ := bnd_at hi
        show (rd_T70 l i).f0.f1.length ≤ _
        rw [h3]
        exact hm _ (List.getElem_mem h2)
      have := goP_fine l v dark (pairsD l v) (nonesD tup l v) hn
      refine ⟨this.1, Nat.le_trans this.2 ?_⟩
      have hp : (pairsD l v).length = (bnd (-1) v l 0).length * (bnd 1 v l 0).length := flat_len l v
      have hn2 : (nonesD tup l v).length = (bnd 0 v l 0).length := by unfold nonesD; simp
      rw [hp, hn2]
      have hcast : ((bnd (-1) v l 0).length : Int) * (bnd 1 v l 0).length = (((bnd (-1) v l 0).length * (bnd 1 v l 0).length : Nat) : Int) := by simp
      rw [hcast] at c
      omega
theorem baseIneq_ev (K : Int) (l : List S68) (b : Bool) (hlen : l.length ≤ 1000000) : Ev (fun k => sequiturbase_Ineq.f k K l b K l b) true :=
  Ev.pos (by simp) (Ev.bind (baseLin_ev K l hlen) (Ev.now fun _ => rfl))
theorem made_l0 (T : List (S70 × Int × Int)) (hT : ∀ t ∈ T, t.1.f0.f1.length ≤ 1000000) (hl : T.length ≤ 2000000) : ∀ (d i : Nat), T.length - i = d → i ≤ T.length →
    Ev (fun k => sequiturlaw30_made.l0 k (T.map fun t => S72.mk t.1 t.2.1 t.2.2) (T.map fun t => S77.mk t.1 t.2.1 t.2.2) (T.length : Int) i) true := by
  intro d
  induction d with
  | zero =>
    intro i h1 h2
    refine Ev.succ ?_
    simp only [sequiturlaw30_made.l0]
    exact Ev.neg (by omega) (Ev.now fun _ => rfl)
  | succ d ih =>
    intro i h1 h2
    have hi : i < T.length := by omega
    have r1 : rd_T72 (T.map fun t => S72.mk t.1 t.2.1 t.2.2) (i : Int) = S72.mk T[i].1 T[i].2.1 T[i].2.2 := by simp [rd_T72, hi]
    have r2 : rd_T77 (T.map fun t => S77.mk t.1 t.2.1 t.2.2) (i : Int) = S77.mk T[i].1 T[i].2.1 T[i].2.2 := by simp [rd_T77, hi]
    refine Ev.succ ?_
    simp only [sequiturlaw30_made.l0]
    rw [r1, r2, List.length_map, List.length_map, show wrap64 ((i:Int) + 1) = ((i+1 : Nat) : Int) by rw [w64 (by omega) (by omega)]; omega]
    refine Ev.pos (by omega) (Ev.pos (by omega) (Ev.pos (by omega) (Ev.pos (by omega) (Ev.bind (baseIneq_ev T[i].1.f0.f0 T[i].1.f0.f1 T[i].1.f1 (hT _ (List.getElem_mem hi))) (Ev.pos rfl (Ev.pos rfl (Ev.pos rfl ?_)))))))
    exact ih (i+1) (by omega) (by omega)
theorem made_ev (T : List (S70 × Int × Int)) (hT : ∀ t ∈ T, t.1.f0.f1.length ≤ 1000000) (hl : T.length ≤ 2000000) : Ev (fun k => sequiturlaw30_made.f k (T.map fun t => S72.mk t.1 t.2.1 t.2.2) (T.map fun t => S77.mk t.1 t.2.1 t.2.2)) true := by
  have := made_l0 T hT hl _ 0 rfl (by omega)
  refine Ev.pos (by simp) (this.of fun k => ?_)
  rw [List.length_map]; rfl
theorem ShadowCasts_pure (l : List S70) (v : Int) (hR : ∀ q ∈ l, Q30 q) (hl : l.length ≤ maxLen) : ∃ k, sequiturlaw30_ShadowCasts.f k l v = some true := by
  have hmax : maxLen = 9223372036854775807 := rfl
  refine Ev.at_ (f := fun k => sequiturlaw30_ShadowCasts.f k l v) (Ev.bind alive30_ev (Ev.pos rfl (Ev.bind (long30_ev l 70 (by omega)) ?_)))
  by_cases hL : longI l 70 = true
  · exact Ev.pos hL (Ev.now fun _ => rfl)
  refine Ev.neg hL ?_
  obtain ⟨n1, n2⟩ := longI_not (show longI l 70 = false by simpa using hL)
  have hM : ∀ q ∈ l, R64 q.f0.f0 ∧ M64 q.f0.f1 := fun q hq => ⟨(hR q hq).1, (hR q hq).2.1⟩
  have hm : ∀ q ∈ l, q.f0.f1.length ≤ 9223372036854775807 := fun q hq => Nat.le_trans (n2 q hq) (by decide)
  have hm2 : ∀ q ∈ l, q.f0.f1.length ≤ 1000000 := fun q hq => Nat.le_trans (n2 q hq) (by decide)
  have f1 := castD_fine l v false hm2
  have f2 := castD_fine l v true hm2
  refine Ev.bind (real_ev l v (by omega) hM hm) (Ev.bind (refShadow_ev l v false (by omega) hM hm) (Ev.bind (dark_ev l v (by omega) hM hm) (Ev.bind (refShadow_ev l v true (by omega) hM hm) ?_)))
  rw [castD_map S72.mk l v false, castD_map S77.mk l v false, castD_map S72.mk l v true, castD_map S77.mk l v true]
  exact Ev.bind (made_ev _ f1.1 f1.2) (Ev.pos rfl (Ev.pos rfl (Ev.bind (made_ev _ f2.1 f2.2) (Ev.pos rfl (Ev.pos rfl (Ev.bind (exact_ev l v (by omega) hm2) (Ev.bind (refExact_ev l v (by omega) hm2) (Ev.now fun _ => by simp))))))))
end Go.Proofs.Ytkfbfgkdabljiaa.Pure
