/- The splits, or the error, are what the reference says: for every inequalities and variable (asked of at most 20, of 70 monomials each). -/
import Derived.Test.YtkfbfgkdabljiaaPShadowSplitsx
import Derived.Laws.BitsAllLaws
import Derived.Deep.Slices
import Derived.ChangeSame
import Derived.KernelRfl
import Derived.OpenShut
namespace Go.Proofs.Ytkfbfgkdabljiaa.Pure
open Go.RowKit Go.Proofs.Ytkfbfgkdabljiaa.PShadowSplits Go.Proofs.YtkfbfgkdabljiaaW.PrintWords Go.Proofs.YtkfbfgkdabljiaaW.PrintLast
set_option linter.unusedVariables false
set_option linter.unusedSimpArgs false
/-- A number, if it fits. -/
def fitI (n : Int) : Int × Bool := if -9223372036854775808 ≤ n ∧ n ≤ 9223372036854775807 then (n, true) else (0, false)
theorem abs_mul_lt {a b : Int} (h1 : -9223372036854775808 ≤ a) (h2 : a ≤ 9223372036854775807) (h3 : -9223372036854775808 ≤ b) (h4 : b ≤ 9223372036854775807) : a.natAbs * b.natAbs ≤ 85070591730234615865843651857942052864 :=
  Nat.le_trans (Nat.mul_le_mul (show a.natAbs ≤ 9223372036854775808 by omega) (show b.natAbs ≤ 9223372036854775808 by omega)) (by decide)
-- one round of the halving: x odd, y = 2^t * z, z odd
theorem u64w (n : Int) : IntKind.u64.wrap n = n % 18446744073709551616 := by
  simp [IntKind.wrap, IntKind.bits, IntKind.signed]
theorem wf64 {a : Int} (h : (Lit.int .i64 a).wf = true) : -9223372036854775808 ≤ a ∧ a ≤ 9223372036854775807 := by
  simpa [Lit.wf, IntKind.min, IntKind.max, IntKind.signed, IntKind.bits] using h
theorem w64 {n : Int} (h1 : -9223372036854775808 ≤ n) (h2 : n ≤ 9223372036854775807) : wrap64 n = n := by
  unfold wrap64; omega
def I64 (l : List Int) : Prop := ∀ x ∈ l, -9223372036854775808 ≤ x ∧ x ≤ 9223372036854775807
theorem rd_at (l : List Int) (i : Nat) (h : i < l.length) : rd l (i:Int) = l[i] := by
  simp [rd, h]
/-- At all great fuels the same answer. -/
def Ev {α : Type} (f : Nat → Option α) (v : α) : Prop := ∃ K, ∀ k, K ≤ k → f k = some v
theorem Ev.now {α : Type} {f : Nat → Option α} {v : α} (h : ∀ k, f k = some v) : Ev f v := ⟨0, fun k _ => h k⟩
theorem Ev.succ {α : Type} {f : Nat → Option α} {v : α} (h : Ev (fun k => f (k + 1)) v) : Ev f v := by
  obtain ⟨K, h⟩ := h
  refine ⟨K + 1, fun k hk => ?_⟩
  obtain ⟨m, rfl⟩ : ∃ m, k = m + 1 := ⟨k - 1, by omega⟩
  exact h m (by omega)
theorem Ev.bind {α β : Type} {f : Nat → Option α} {g : Nat → α → Option β} {v : α} {u : β} (h : Ev f v) (h2 : Ev (fun k => g k v) u) : Ev (fun k => (f k).bind (g k)) u := by
  obtain ⟨K, h⟩ := h
  obtain ⟨K2, h2⟩ := h2
  refine ⟨max K K2, fun k hk => ?_⟩
  show (f k).bind (g k) = some u
  rw [h k (by omega)]
  exact h2 k (by omega)
theorem Ev.of {α : Type} {f g : Nat → Option α} {v : α} (h : Ev f v) (e : ∀ k, g k = f k) : Ev g v := by
  obtain ⟨K, h⟩ := h
  exact ⟨K, fun k hk => (e k).trans (h k hk)⟩
theorem Ev.at_ {α : Type} {f : Nat → Option α} {v : α} (h : Ev f v) : ∃ k, f k = some v := by
  obtain ⟨K, h⟩ := h
  exact ⟨K, h K (Nat.le_refl _)⟩
theorem Ev.mono {α : Type} {f : Nat → Option α} {v : α} (K : Nat) (hm : ∀ k, LeO (f k) (f (k + 1))) (h : f K = some v) : Ev f v := by
  refine ⟨K, fun k hk => ?_⟩
  obtain ⟨d, rfl⟩ := Nat.exists_eq_add_of_le hk
  induction d with
  | zero => exact h
  | succ d ih => exact hm (K + d) v (ih (by omega))
theorem Ev.val {α : Type} {f : Nat → Option α} {v u : α} (h : Ev f v) (e : v = u) : Ev f u := e ▸ h
theorem Ev.pos {α : Type} {c : Prop} [Decidable c] {f g : Nat → Option α} {v : α} (h : c) (hf : Ev f v) : Ev (fun k => if c then f k else g k) v := hf.of fun k => if_pos h
theorem Ev.neg {α : Type} {c : Prop} [Decidable c] {f g : Nat → Option α} {v : α} (h : ¬ c) (hf : Ev g v) : Ev (fun k => if c then f k else g k) v := hf.of fun k => if_neg h
theorem rdM_at (l : List S68) (i : Nat) (h : i < l.length) : rd_T68 l (i:Int) = l[i] := by simp [rd_T68, h]
theorem rdQ_at (l : List S62) (i : Nat) (h : i < l.length) : rd_T62 l (i:Int) = l[i] := by simp [rd_T62, h]
theorem rdI_at (l : List S70) (i : Nat) (h : i < l.length) : rd_T70 l (i:Int) = l[i] := by simp [rd_T70, h]
/-- Are the variables in order, of the 64, and no factor zero? -/
def rightL : Int → List S68 → Bool
  | _, [] => true
  | last, m :: l => decide (last < m.f0) && decide (m.f0 < 64) && decide (m.f1 ≠ 0) && rightL m.f0 l
theorem Right_l0 (l : List S68) (hl : l.length ≤ 9223372036854775807) : ∀ (d i : Nat) (last : Int), l.length - i = d → i ≤ l.length →
    Ev (fun k => lin_Right.l0 k last l (l.length:Int) i) (if rightL last (l.drop i) = true then 0 else 1) := by
  intro d
  induction d with
  | zero =>
    intro i last h1 h2
    refine Ev.succ (Ev.now fun k => ?_)
    simp only [lin_Right.l0]
    rw [if_neg (by omega), List.drop_eq_nil_of_le (by omega)]; rfl
  | succ d ih =>
    intro i last h1 h2
    have hi : i < l.length := by omega
    rw [List.drop_eq_getElem_cons hi]
    by_cases e : last < l[i].f0 ∧ l[i].f0 < 64 ∧ l[i].f1 ≠ 0
    · obtain ⟨e1, e2, e3⟩ := e
      refine Ev.succ (Ev.of (ih (i+1) l[i].f0 (by omega) (by omega)) fun k => ?_) |>.val ?_
      · simp only [lin_Right.l0]
        rw [if_pos (by omega), if_pos (by omega), if_pos (by omega), rdM_at l i hi, if_neg (by omega), if_neg (by omega), if_neg e3, w64 (by omega) (by omega)]; rfl
      · simp only [rightL, decide_eq_true e1, decide_eq_true e2, decide_eq_true e3, Bool.true_and]
    · refine Ev.succ (Ev.now fun k => ?_)
      have hr : rightL last (l[i] :: l.drop (i+1)) = false := by
        simp only [rightL, Bool.and_eq_false_iff, decide_eq_false_iff_not]
        omega
      rw [hr]
      simp only [lin_Right.l0]
      rw [if_pos (by omega), if_pos (by omega), if_pos (by omega), rdM_at l i hi]
      by_cases e1 : l[i].f0 ≤ last
      · rw [if_pos e1]; rfl
      by_cases e2 : l[i].f0 ≥ 64
      · rw [if_neg e1, if_pos e2]; rfl
      · rw [if_neg e1, if_neg e2, if_pos (by omega)]; rfl
theorem Right_ev (K : Int) (l : List S68) (hl : l.length ≤ 9223372036854775807) : Ev (fun k => lin_Right.f k K l) (if rightL (-1) l = true then 0 else 1) := by
  have := Right_l0 l hl _ 0 (-1) rfl (by omega)
  exact this
theorem iRight_ev (K : Int) (l : List S68) (b : Bool) (hl : l.length ≤ 9223372036854775807) : Ev (fun k => ineq_Right.f k K l b) (if rightL (-1) l = true then 0 else 1) :=
  Ev.bind (Right_ev K l hl) (Ev.now fun _ => rfl)
theorem right1_ev (K : Int) (l : List S68) (hl : l.length ≤ 9223372036854775807) : Ev (fun k => lin_right_1.f k K l) (!rightL (-1) l) :=
  Ev.bind (Right_ev K l hl) (Ev.now fun _ => by cases rightL (-1) l <;> rfl)
theorem idx_l0 (l : List S62) (hl : l.length ≤ 9223372036854775807) (hm : ∀ q ∈ l, q.f1.length ≤ 9223372036854775807) : ∀ (d i : Nat), l.length - i = d → i ≤ l.length →
    ∃ v, Ev (fun k => api_Lin_117.l0 k l (l.length:Int) i) v ∧ decide (v ≥ 0) = !((l.drop i).all fun q => rightL (-1) q.f1) := by
  intro d
  induction d with
  | zero =>
    intro i h1 h2
    refine ⟨-1, Ev.succ (Ev.now fun k => ?_), ?_⟩
    · simp only [api_Lin_117.l0]
      rw [if_neg (by omega)]
    · rw [List.drop_eq_nil_of_le (by omega)]; rfl
  | succ d ih =>
    intro i h1 h2
    have hi : i < l.length := by omega
    rw [List.drop_eq_getElem_cons hi]
    have hq := right1_ev l[i].f0 l[i].f1 (hm _ (List.getElem_mem hi))
    obtain ⟨v, ev, hv⟩ := ih (i+1) (by omega) (by omega)
    have hs : ∀ k, api_Lin_117.l0 (k+1) l (l.length:Int) i = (lin_right_1.f k l[i].f0 l[i].f1).bind fun t => if t = true then some (i:Int) else api_Lin_117.l0 k l (l.length:Int) ((i+1 : Nat) : Int) := by
      intro k
      simp only [api_Lin_117.l0]
      rw [if_pos (by omega), if_pos (by omega), if_pos (by omega), rdQ_at l i hi, w64 (by omega) (by omega)]; rfl
    by_cases e : rightL (-1) l[i].f1 = true
    · rw [e] at hq
      refine ⟨v, Ev.succ (Ev.of (Ev.bind hq ?_) hs), ?_⟩
      · exact Ev.of ev fun k => by simp
      · rw [hv, List.all_cons, e, Bool.true_and]
    · have e' : rightL (-1) l[i].f1 = false := by simpa using e
      rw [e'] at hq
      refine ⟨i, Ev.succ (Ev.of (Ev.bind hq ?_) hs), ?_⟩
      · exact Ev.now fun k => by simp
      · rw [List.all_cons, e']; simp
theorem linright_ev (l : List S62) (hl : l.length ≤ 9223372036854775807) (hm : ∀ q ∈ l, q.f1.length ≤ 9223372036854775807) : Ev (fun k => lin_right.f k l) (l.all fun q => rightL (-1) q.f1) := by
  obtain ⟨v, ev, hv⟩ := idx_l0 l hl hm _ 0 rfl (by omega)
  rw [List.drop_zero] at hv
  refine Ev.bind (v := decide (v ≥ 0)) (Ev.bind ev (Ev.now fun _ => rfl)) (Ev.now fun _ => ?_)
  rw [hv]; simp
theorem rightL_mem : ∀ (l : List S68) (last : Int), rightL last l = true → ∀ m ∈ l, last < m.f0 ∧ m.f0 < 64 ∧ m.f1 ≠ 0 := by
  intro l
  induction l with
  | nil => intro last _ m hm; cases hm
  | cons a l ih =>
    intro last h m hm
    simp only [rightL, Bool.and_eq_true, decide_eq_true_eq] at h
    rcases List.mem_cons.1 hm with e | e
    · subst e; exact ⟨h.1.1.1, h.1.1.2, h.1.2⟩
    · have := ih a.f0 h.2 m e; omega
theorem rightL_len : ∀ (l : List S68) (last : Int), last ≤ 63 → rightL last l = true → (l.length : Int) ≤ 63 - last := by
  intro l
  induction l with
  | nil => intro last h _; simp; omega
  | cons a l ih =>
    intro last h0 h
    simp only [rightL, Bool.and_eq_true, decide_eq_true_eq] at h
    have := ih a.f0 (by omega) h.2
    simp only [List.length_cons]; omega
/-- The monomials' ranges. -/
def M64 (l : List S68) : Prop := ∀ m ∈ l, (-9223372036854775808 ≤ m.f0 ∧ m.f0 ≤ 9223372036854775807) ∧ -9223372036854775808 ≤ m.f1 ∧ m.f1 ≤ 9223372036854775807
def R64 (n : Int) : Prop := -9223372036854775808 ≤ n ∧ n ≤ 9223372036854775807
theorem in64_of {n : Int} (h : R64 n) : in64 n = true := by
  simp only [in64, Bool.and_eq_true, decide_eq_true_eq]; exact h
theorem mul_R64 {a b : Int} (ha : R64 a) (hb : R64 b) : -85070591730234615865843651857942052864 ≤ a * b ∧ a * b ≤ 85070591730234615865843651857942052864 := by
  have h := abs_mul_lt ha.1 ha.2 hb.1 hb.2
  rw [← Int.natAbs_mul] at h
  omega
theorem wrap192_id {s : Int} (h1 : -3138550867693340381917894711603833208051177722232017256448 ≤ s) (h2 : s < 3138550867693340381917894711603833208051177722232017256448) : wrap192 s = s := by
  unfold wrap192; omega
/-- The constant divided, rounded up, and a monomial divided. -/
def ceilD (K d : Int) : Int := -((-K) / d)
theorem ceil_law {K d : Int} (hd : 1 ≤ d) : d * (ceilD K d - 1) < K ∧ K ≤ d * ceilD K d := by
  unfold ceilD
  have h1 := Int.ediv_mul_le (-K) (show d ≠ 0 by omega)
  have h2 := Int.lt_ediv_add_one_mul_self (-K) (show 0 < d by omega)
  rw [Int.mul_comm] at h1 h2
  generalize (-K) / d = q at *
  rw [Int.mul_add] at h2
  rw [Int.mul_sub, Int.mul_neg]
  omega
theorem ceilD_uniq {K d c : Int} (hd : 1 ≤ d) (h1 : d * (c - 1) < K) (h2 : K ≤ d * c) : c = ceilD K d := by
  obtain ⟨p1, p2⟩ := ceil_law (K := K) hd
  have a1 : d * (c - 1) < d * ceilD K d := by omega
  have a2 : d * (ceilD K d - 1) < d * c := by omega
  have b1 := Int.lt_of_mul_lt_mul_left a1 (by omega)
  have b2 := Int.lt_of_mul_lt_mul_left a2 (by omega)
  omega
instance instR64 (n : Int) : Decidable (R64 n) := inferInstanceAs (Decidable (_ ∧ _))
theorem Far_eq {a : Int} (h1 : -9223372036854775808 ≤ a) (h2 : a ≤ 9223372036854775807) : sequiturref01_Far.f a = some (a.natAbs : Int) := by
  unfold sequiturref01_Far.f
  simp only [u64w]
  split <;> congr 1 <;> omega
/-- The two halves of a number, up to a multiple of 2^128. -/
def hiW (v : Int) : Int := wrap64 (v / 18446744073709551616)
def loW (v : Int) : Int := v % 18446744073709551616
theorem xor_all (x : Int) (h1 : 0 ≤ x) (h2 : x < 18446744073709551616) : Go.bits .xor .u64 18446744073709551615 x = 18446744073709551615 - x := by
  obtain ⟨n, rfl⟩ := Int.eq_ofNat_of_zero_le h1
  refine Eq.trans (u64_xor_nat 18446744073709551615 n (by decide) (by omega)) ?_
  have h : (BitVec.allOnes 64 ^^^ BitVec.ofNat 64 n).toNat = 18446744073709551615 ^^^ n := by
    rw [BitVec.toNat_xor, BitVec.toNat_allOnes, BitVec.toNat_ofNat, Nat.mod_eq_of_lt (by omega)]
  rw [BitVec.allOnes_xor, BitVec.toNat_not, BitVec.toNat_ofNat, Nat.mod_eq_of_lt (by omega)] at h
  omega
theorem Of_eq {a : Int} (h1 : -9223372036854775808 ≤ a) (h2 : a ≤ 9223372036854775807) : sequiturref01_Of.f a = some (hiW a, loW a) := by
  unfold sequiturref01_Of.f hiW loW wrap64
  simp only [u64w]
  split <;> congr 2 <;> omega
theorem Plus_eq (v w : Int) : sequiturref01_Plus.f (hiW v) (loW v) (hiW w) (loW w) = some (hiW (v + w), loW (v + w)) := by
  unfold sequiturref01_Plus.f hiW loW wrap64
  simp only [u64w]
  split <;> congr 2 <;> omega
theorem hiW0 : hiW 0 = 0 := by unfold hiW wrap64; omega
theorem loW0 : loW 0 = 0 := by decide
theorem hiW1 : hiW 1 = 0 := by unfold hiW wrap64; omega
theorem loW1 : loW 1 = 1 := by decide
theorem Minus_eq (v : Int) : sequiturref01_Minus.f (hiW v) (loW v) = some (hiW (-v), loW (-v)) := by
  unfold sequiturref01_Minus.f
  rw [xor_all _ (by unfold loW; omega) (by unfold loW; omega)]
  rw [show wrap64 (-1 - hiW v) = hiW (-1 - v) by unfold hiW wrap64; omega, show 18446744073709551615 - loW v = loW (-1 - v) by unfold loW; omega]
  have := Plus_eq (-1 - v) 1
  rw [hiW1, loW1] at this
  rw [this, show -1 - v + 1 = -v by omega]; rfl
theorem Fits_eq (v : Int) (h1 : -170141183460469231731687303715884105728 ≤ v) (h2 : v < 170141183460469231731687303715884105728) : sequiturref01_Fits.f (hiW v) (loW v) = some (fitI v) := by
  have e : wrap64 (loW v) = if loW v < 9223372036854775808 then loW v else loW v - 18446744073709551616 := by
    have : 0 ≤ loW v ∧ loW v < 18446744073709551616 := by unfold loW; omega
    unfold wrap64; split <;> omega
  have hh : hiW v = v / 18446744073709551616 := by unfold hiW; exact w64 (by omega) (by omega)
  unfold sequiturref01_Fits.f fitI
  rw [e, hh]
  unfold loW
  repeat' split
  all_goals first | omega | (congr 2; omega) | rfl
theorem Times_l0 : ∀ (u : Nat) (x o : Int), u < 18446744073709551616 → ∃ K, ∀ k, K ≤ k → sequiturref01_Times.l0 k u (hiW x) (loW x) (hiW o) (loW o) = some (hiW (o + u * x), loW (o + u * x)) := by
  intro u
  induction u using Nat.strongRecOn with
  | _ u ih =>
    intro x o hu
    by_cases h : u = 0
    · subst h
      refine ⟨1, fun k hk => ?_⟩
      obtain ⟨m, rfl⟩ : ∃ m, k = m + 1 := ⟨k - 1, by omega⟩
      simp only [sequiturref01_Times.l0]
      rw [if_neg (by omega)]; simp
    · have ht : Int.tdiv (u:Int) 2 = ((u / 2 : Nat) : Int) := (Int.ofNat_tdiv u 2).symm
      have hm : Int.tmod (u:Int) 2 = ((u % 2 : Nat) : Int) := (Int.ofNat_tmod u 2).symm
      have hw : IntKind.u64.wrap (Int.tdiv (u:Int) 2) = ((u / 2 : Nat) : Int) := by rw [ht, u64w]; omega
      have hx : ((u / 2 : Nat) : Int) * (x + x) = ((u - u % 2 : Nat) : Int) * x := by
        rw [← Int.two_mul, ← Int.mul_assoc]; congr 1; omega
      by_cases e : u % 2 = 1
      · obtain ⟨K, ev⟩ := ih (u / 2) (by omega) (x + x) (o + x) (by omega)
        refine ⟨K + 1, fun k hk => ?_⟩
        obtain ⟨m, rfl⟩ : ∃ m, k = m + 1 := ⟨k - 1, by omega⟩
        simp only [sequiturref01_Times.l0]
        rw [if_pos (by omega), hm, e, if_pos (by rfl), Plus_eq, Plus_eq]
        simp only [Option.bind_some]
        rw [hw, ev m (by omega), hx, e]
        have : o + x + ((u - 1 : Nat) : Int) * x = o + u * x := by
          have : (u : Int) = ((u - 1 : Nat) : Int) + 1 := by omega
          rw [this, Int.add_mul]; omega
        rw [this]
      · obtain ⟨K, ev⟩ := ih (u / 2) (by omega) (x + x) o (by omega)
        refine ⟨K + 1, fun k hk => ?_⟩
        obtain ⟨m, rfl⟩ : ∃ m, k = m + 1 := ⟨k - 1, by omega⟩
        simp only [sequiturref01_Times.l0]
        rw [if_pos (by omega), hm, if_neg (by omega), Plus_eq]
        simp only [Option.bind_some]
        rw [hw, ev m (by omega), hx, show u % 2 = 0 by omega]; rfl
theorem Times_ev {a b : Int} (h1 : -9223372036854775808 ≤ a) (h2 : a ≤ 9223372036854775807) (h3 : -9223372036854775808 ≤ b) (h4 : b ≤ 9223372036854775807) :
    ∃ K, ∀ k, K ≤ k → sequiturref01_Times.f k a b = some (hiW (a * b), loW (a * b)) := by
  by_cases hb : b < 0
  · obtain ⟨K, ev⟩ := Times_l0 b.natAbs (-a) 0 (by omega)
    refine ⟨K + 1, fun k hk => ?_⟩
    obtain ⟨m, rfl⟩ : ∃ m, k = m + 1 := ⟨k - 1, by omega⟩
    unfold sequiturref01_Times.f
    rw [Of_eq h1 h2]
    simp only [Option.bind_some]
    rw [if_pos hb, Minus_eq]
    simp only [Option.bind_some, sequiturref01_Times.j0]
    rw [Far_eq h3 h4]
    simp only [Option.bind_some]
    have e : (0:Int) + (b.natAbs : Int) * -a = a * b := by
      rw [show (b.natAbs : Int) = -b by omega, Int.neg_mul_neg, Int.mul_comm]; omega
    rw [← e]
    have := ev m (by omega)
    rw [hiW0, loW0] at this
    exact this
  · obtain ⟨K, ev⟩ := Times_l0 b.natAbs a 0 (by omega)
    refine ⟨K + 1, fun k hk => ?_⟩
    obtain ⟨m, rfl⟩ : ∃ m, k = m + 1 := ⟨k - 1, by omega⟩
    unfold sequiturref01_Times.f
    rw [Of_eq h1 h2]
    simp only [Option.bind_some]
    rw [if_neg hb]
    simp only [sequiturref01_Times.j0]
    rw [Far_eq h3 h4]
    simp only [Option.bind_some]
    have e : (0:Int) + (b.natAbs : Int) * a = a * b := by
      rw [show (b.natAbs : Int) = b by omega, Int.mul_comm]; omega
    rw [← e]
    have := ev m (by omega)
    rw [hiW0, loW0] at this
    exact this
/-- How many times a variable stands in a form. -/
def coef : List S68 → Nat → Int
  | [], _ => 0
  | m :: l, v => (if m.f0 = (v : Int) then m.f1 else 0) + coef l v
theorem rightL_vars {l : List S68} (h : rightL (-1) l = true) : ∀ m ∈ l, 0 ≤ m.f0 ∧ m.f0 < 64 := fun m hm => by
  have := rightL_mem l (-1) h m hm; omega
theorem coef_none : ∀ (l : List S68) (last : Int), rightL last l = true → ∀ v : Nat, (v : Int) ≤ last → coef l v = 0 := by
  intro l
  induction l with
  | nil => intro _ _ _ _; rfl
  | cons m l ih =>
    intro last h v hv
    simp only [rightL, Bool.and_eq_true, decide_eq_true_eq] at h
    simp only [coef]
    rw [if_neg (by omega), ih m.f0 h.2 v (by omega)]; rfl
theorem coef_R64 : ∀ (l : List S68) (last : Int), rightL last l = true → M64 l → ∀ v : Nat, R64 (coef l v) := by
  intro l
  induction l with
  | nil => intro _ _ _ _; exact ⟨by simp [coef], by simp [coef]⟩
  | cons m l ih =>
    intro last h hM v
    have hr := h
    simp only [rightL, Bool.and_eq_true, decide_eq_true_eq] at h
    simp only [coef]
    by_cases e : m.f0 = (v : Int)
    · rw [if_pos e, coef_none l m.f0 h.2 v (by omega), Int.add_zero]; exact (hM m (List.mem_cons_self ..)).2
    · rw [if_neg e, Int.zero_add]; exact ih m.f0 h.2 (fun a ha => hM a (List.mem_cons_of_mem _ ha)) v
/-- The form of which the variables stand so many times. -/
def linOf (c : Nat → Int) (n : Nat) : List S68 := (List.range n).filterMap fun i => if c i = 0 then none else some ⟨(i : Int), c i⟩
theorem linOf_succ (c : Nat → Int) (n : Nat) : linOf c (n + 1) = linOf c n ++ (if c n = 0 then [] else [⟨(n : Int), c n⟩]) := by
  unfold linOf
  rw [List.range_succ, List.filterMap_append]
  congr 1
  simp only [List.filterMap_cons, List.filterMap_nil]
  split <;> simp_all
theorem linOf_len (c : Nat → Int) (n : Nat) : (linOf c n).length ≤ n := by
  have := List.length_filterMap_le (fun i : Nat => if c i = 0 then none else some (⟨(i : Int), c i⟩ : S68)) (List.range n)
  simpa [linOf] using this
theorem linOf_congr {c d : Nat → Int} {n : Nat} (h : ∀ i, i < n → c i = d i) : linOf c n = linOf d n := by
  induction n with
  | zero => rfl
  | succ n ih => rw [linOf_succ, linOf_succ, ih (fun i hi => h i (by omega)), h n (by omega)]
/-- How many times a variable stands in a sum; and the sum's constant. -/
def csum : List S158 → Nat → Int
  | [], _ => 0
  | x :: l, v => coef x.f0.f1 v * x.f1 + csum l v
def kS : List S158 → Int
  | [] => 0
  | x :: l => x.f0.f0 * x.f1 + kS l
theorem ksum_eq (l : List S158) : ∀ s, l.foldl (fun s x => s + x.f0.f0 * x.f1) s = s + kS l := by
  induction l with
  | nil => intro s; simp [kS]
  | cons x l ih => intro s; simp only [List.foldl_cons, kS]; rw [ih]; omega
theorem addM_len (b : Int) (acc : List Int) (m : S68) : (addM b acc m).length = acc.length := by simp [addM]
theorem addMs_len (b : Int) (l : List S68) : ∀ acc : List Int, (l.foldl (addM b) acc).length = acc.length := by
  induction l with
  | nil => intro _; rfl
  | cons m l ih => intro acc; rw [List.foldl_cons, ih, addM_len]
theorem addM_get (b : Int) (acc : List Int) (m : S68) (v : Nat) (hv : v < acc.length) (h0 : 0 ≤ m.f0) : (addM b acc m).getD v 0 = acc.getD v 0 + (if m.f0 = (v : Int) then m.f1 else 0) * b := by
  unfold addM
  rw [List.getD_eq_getElem?_getD, List.getElem?_set, List.getD_eq_getElem?_getD, List.getD_eq_getElem?_getD]
  by_cases e : m.f0 = (v : Int)
  · have e2 : m.f0.toNat = v := by omega
    rw [if_pos e, if_pos e2, if_pos (by omega), e2]; rfl
  · rw [if_neg e, if_neg (by omega), Int.zero_mul, Int.add_zero]
theorem addMs_get (b : Int) (v : Nat) (l : List S68) : ∀ acc : List Int, v < acc.length → (∀ m ∈ l, 0 ≤ m.f0) → (l.foldl (addM b) acc).getD v 0 = acc.getD v 0 + coef l v * b := by
  induction l with
  | nil => intro acc _ _; simp [coef]
  | cons m l ih =>
    intro acc hv h
    rw [List.foldl_cons, ih _ (by rw [addM_len]; exact hv) (fun a ha => h a (List.mem_cons_of_mem _ ha)), addM_get b acc m v hv (h m (List.mem_cons_self ..))]
    simp only [coef, Int.add_mul]; omega
theorem accs_get (v : Nat) (l : List S158) : ∀ acc : List Int, v < acc.length → (∀ x ∈ l, ∀ m ∈ x.f0.f1, 0 ≤ m.f0) → (l.foldl addF acc).getD v 0 = acc.getD v 0 + csum l v := by
  induction l with
  | nil => intro acc _ _; simp [csum]
  | cons x l ih =>
    intro acc hv h
    rw [List.foldl_cons, ih _ (by unfold addF; rw [addMs_len]; exact hv) (fun a ha => h a (List.mem_cons_of_mem _ ha))]
    unfold addF
    rw [addMs_get x.f1 v x.f0.f1 acc hv (h x (List.mem_cons_self ..))]
    simp only [csum]; omega
/-- A sum's parts: forms that are right, and numbers in range. -/
def G67 (l : List S158) : Prop := ∀ x ∈ l, R64 x.f0.f0 ∧ rightL (-1) x.f0.f1 = true ∧ M64 x.f0.f1 ∧ R64 x.f1
theorem G67_tail {x : S158} {l : List S158} (h : G67 (x :: l)) : G67 l := fun a ha => h a (List.mem_cons_of_mem _ ha)
theorem csum_le (v : Nat) : ∀ l : List S158, G67 l → -(l.length * 85070591730234615865843651857942052864 : Int) ≤ csum l v ∧ csum l v ≤ l.length * 85070591730234615865843651857942052864 := by
  intro l
  induction l with
  | nil => intro _; simp [csum]
  | cons x l ih =>
    intro h
    have h1 := ih (G67_tail h)
    have hx := h x (List.mem_cons_self ..)
    have h2 := mul_R64 (coef_R64 x.f0.f1 (-1) hx.2.1 hx.2.2.1 v) hx.2.2.2
    simp only [csum, List.length_cons]
    omega
theorem kS_le : ∀ l : List S158, G67 l → -(l.length * 85070591730234615865843651857942052864 : Int) ≤ kS l ∧ kS l ≤ l.length * 85070591730234615865843651857942052864 := by
  intro l
  induction l with
  | nil => intro _; simp [kS]
  | cons x l ih =>
    intro h
    have h1 := ih (G67_tail h)
    have hx := h x (List.mem_cons_self ..)
    have h2 := mul_R64 hx.1 hx.2.2.2
    simp only [kS, List.length_cons]
    omega
def fitsC (c : Nat → Int) : Bool := (List.range 64).all fun v => decide (R64 (c v))
theorem fitsC_R64 {c : Nat → Int} (h : fitsC c = true) : ∀ v, v < 64 → R64 (c v) := by
  intro v hv
  have := List.all_eq_true.1 h v (List.mem_range.2 hv)
  simpa using this
theorem filterMap_congr_ {α β : Type} (l : List α) (f g : α → Option β) (h : ∀ a ∈ l, f a = g a) : l.filterMap f = l.filterMap g := by
  induction l with
  | nil => rfl
  | cons a l ih =>
    rw [List.filterMap_cons, List.filterMap_cons, h a (List.mem_cons_self ..), ih (fun b hb => h b (List.mem_cons_of_mem _ hb))]
/-- What a sum comes to. -/
def sumR (l : List S158) : Int × List S68 × Int :=
  if R64 (kS l) ∧ fitsC (csum l) = true then (kS l, linOf (csum l) 64, 0) else (0, [], 5)
theorem fit64_R {n : Int} (h : R64 n) : fit64 n = (n, true) := by
  have h' : -9223372036854775808 ≤ n ∧ n ≤ 9223372036854775807 := h
  unfold fit64; rw [if_pos h']
theorem fit64_N {n : Int} (h : ¬ R64 n) : fit64 n = (0, false) := by
  have h' : ¬ (-9223372036854775808 ≤ n ∧ n ≤ 9223372036854775807) := h
  unfold fit64; rw [if_neg h']
theorem fit64_2 (n : Int) : (fit64 n).2 = decide (R64 n) := by
  by_cases h : R64 n
  · rw [fit64_R h, decide_eq_true h]
  · rw [fit64_N h, decide_eq_false h]
theorem sum_eq (l : List S158) (h : G67 l) (hl : l.length ≤ 9223372036854775807) : lin_sum.f l = some (sumR l) := by
  have hg : l.all goodF = true := by
    rw [List.all_eq_true]
    intro x hx
    obtain ⟨a, b, c, d⟩ := h x hx
    simp only [goodF, Bool.and_eq_true, List.all_eq_true]
    refine ⟨⟨in64_of a, in64_of d⟩, fun m hm => ?_⟩
    have := rightL_vars b m hm
    simp only [goodM, Bool.and_eq_true, decide_eq_true_eq]
    exact ⟨this, in64_of (c m hm).2⟩
  have hacc : ∀ v, v < 64 → (accs l).getD v 0 = csum l v := by
    intro v hv
    unfold accs
    rw [accs_get v l _ (by simpa using hv) (fun x hx m hm => (rightL_vars (h x hx).2.1 m hm).1)]
    have h0 : (List.replicate 64 (0:Int)).getD v 0 = 0 := by rw [List.getD_eq_getElem?_getD, List.getElem?_replicate, if_pos hv]; rfl
    rw [h0]; omega
  have hW : ∀ v, v < 64 → fit192 ((accs l).getD v 0) = fit64 (csum l v) := by
    intro v hv
    rw [hacc v hv]
    unfold fit192
    have := csum_le v l h
    rw [wrap192_id (by omega) (by omega)]
  have hK : fit192 (ksum l) = fit64 (kS l) := by
    have e : ksum l = kS l := by unfold ksum; rw [ksum_eq]; omega
    rw [e]
    unfold fit192
    have := kS_le l h
    rw [wrap192_id (by omega) (by omega)]
  have hall : ((List.range 64).all fun i => (fit192 ((accs l).getD i 0)).2) = fitsC (csum l) := by
    unfold fitsC
    rw [Bool.eq_iff_iff, List.all_eq_true, List.all_eq_true]
    constructor
    · intro hh v hv
      have := hh v hv
      rwa [hW v (List.mem_range.1 hv), fit64_2] at this
    · intro hh v hv
      have := hh v hv
      rwa [hW v (List.mem_range.1 hv), fit64_2]
  unfold lin_sum.f sumR
  rw [if_pos hg, hK, fit64_2]
  unfold sumOk
  rw [hall]
  by_cases e : R64 (kS l) ∧ fitsC (csum l) = true
  · rw [if_pos e, if_pos (by simp [e.1, e.2]), fit64_R e.1]
    congr 3
    have hc := fitsC_R64 e.2
    unfold sumOut linOf
    refine filterMap_congr_ _ _ _ fun i hi => ?_
    rw [hW i (List.mem_range.1 hi), fit64_R (hc i (List.mem_range.1 hi))]
  · rw [if_neg e, if_neg (by simp only [Bool.and_eq_true, decide_eq_true_eq]; exact e)]
/-- The forms, each with its number of times. -/
def zipS (l0 : List S62) (l1 : List Int) : List S158 := List.zipWith (fun q b => ⟨q, b⟩) l0 l1
theorem zipS_G67 {l0 : List S62} {l1 : List Int} (h0 : ∀ q ∈ l0, R64 q.f0 ∧ M64 q.f1) (hr : l0.all (fun q => rightL (-1) q.f1) = true) (h1 : I64 l1) : G67 (zipS l0 l1) := by
  intro x hx
  obtain ⟨i, hi, he⟩ := List.getElem_of_mem hx
  unfold zipS at he hi
  rw [List.getElem_zipWith] at he
  subst he
  simp only [List.length_zipWith] at hi
  have a0 : l0[i]'(by omega) ∈ l0 := List.getElem_mem _
  have a1 : l1[i]'(by omega) ∈ l1 := List.getElem_mem _
  exact ⟨(h0 _ a0).1, List.all_eq_true.1 hr _ a0, (h0 _ a0).2, h1 _ a1⟩
def sumD (l0 : List S62) (l1 : List Int) : Int × List S68 × Int :=
  if l0.all (fun q => rightL (-1) q.f1) = true ∧ l0.length = l1.length then sumR (zipS l0 l1) else (0, [], 1)
theorem linSum_l0 (l0 : List S62) (l1 : List Int) (hG : G67 (zipS l0 l1)) (he : l0.length = l1.length) (hlen : l0.length ≤ 1000000) : ∀ (d i : Nat) (acc : List S158), l0.length - i = d → i ≤ l0.length → acc = (zipS l0 l1).take i →
    Ev (fun k => lin_Sum.l0 k l1 acc l0 (l0.length:Int) i) (sumR (zipS l0 l1)) := by
  have hzl : (zipS l0 l1).length = l0.length := by simp [zipS, he]
  intro d
  induction d with
  | zero =>
    intro i acc h1 h2 hacc
    refine Ev.succ (Ev.now fun k => ?_)
    simp only [lin_Sum.l0]
    rw [if_neg (by omega), hacc, List.take_of_length_le (by omega), sum_eq _ hG (by omega)]; rfl
  | succ d ih =>
    intro i acc h1 h2 hacc
    have hi : i < l0.length := by omega
    refine Ev.succ (Ev.of (ih (i+1) (acc ++ [⟨l0[i], l1[i]'(by omega)⟩]) (by omega) (by omega) ?_) fun k => ?_)
    · rw [hacc, List.take_succ_eq_append_getElem (by omega)]
      simp [zipS]
    · have hal : acc.length ≤ 1000000 := by rw [hacc]; simp; omega
      simp only [lin_Sum.l0]
      rw [if_pos (by omega), if_pos (by omega), if_pos (by omega), if_pos (by omega), if_pos (by omega), rdQ_at l0 i hi, rd_at l1 i (by omega), w64 (by omega) (by omega)]; rfl
theorem linSum_ev (l0 : List S62) (l1 : List Int) (h0 : ∀ q ∈ l0, R64 q.f0 ∧ M64 q.f1 ∧ q.f1.length ≤ 9223372036854775807) (h1 : I64 l1) (hlen : l0.length ≤ 1000000) :
    Ev (fun k => lin_Sum.f k l0 l1) (sumD l0 l1) := by
  refine Ev.bind (linright_ev l0 (by omega) (fun q hq => (h0 q hq).2.2)) ?_
  unfold sumD
  by_cases e : l0.all (fun q => rightL (-1) q.f1) = true
  · refine Ev.pos e ?_
    by_cases e2 : l0.length = l1.length
    · rw [if_pos ⟨e, e2⟩]
      refine Ev.succ (Ev.of (linSum_l0 l0 l1 (zipS_G67 (fun q hq => ⟨(h0 q hq).1, (h0 q hq).2.1⟩) e h1) e2 hlen _ 0 [] rfl (by omega) (by simp)) fun k => ?_)
      simp only [lin_Sum.j0]
      rw [if_neg (by simp; omega)]; rfl
    · rw [if_neg (fun h => e2 h.2)]
      refine Ev.succ (Ev.now fun k => ?_)
      simp only [lin_Sum.j0]
      rw [if_pos (by simp; omega)]
  · rw [if_neg (fun h => e h.1)]
    refine Ev.neg e (Ev.succ (Ev.now fun k => ?_))
    simp only [lin_Sum.j0, if_true]
theorem Scale_ev (K : Int) (l : List S68) (c : Int) (hK : R64 K) (hl : M64 l) (hc : R64 c) (hlen : l.length ≤ 9223372036854775807) : Ev (fun k => lin_Scale.f k K l c) (sumD [⟨K, l⟩] [c]) := by
  refine Ev.bind (linSum_ev _ _ (by intro q hq; simp at hq; subst hq; exact ⟨hK, hl, hlen⟩) (by intro y hy; simp at hy; subst hy; exact hc) (by simp)) (Ev.now fun _ => rfl)
theorem sumD_right {l0 : List S62} {l1 : List Int} (hr : l0.all (fun q => rightL (-1) q.f1) = true) (he : l0.length = l1.length) : sumD l0 l1 = sumR (zipS l0 l1) := by
  unfold sumD; rw [if_pos ⟨hr, he⟩]
theorem hiW_small {p : Int} (h1 : -85070591730234615865843651857942052864 ≤ p) (h2 : p ≤ 85070591730234615865843651857942052864) : hiW p = p / 18446744073709551616 := by
  unfold hiW; exact w64 (by omega) (by omega)
def fitR (s : Int) : Int × Bool := if R64 s then (s, true) else (0, false)
theorem fitI_R (s : Int) : fitI s = fitR s := rfl
theorem zipS_cons (q : S62) (l0 : List S62) (b : Int) (l1 : List Int) : zipS (q :: l0) (b :: l1) = ⟨q, b⟩ :: zipS l0 l1 := rfl
theorem kS_zip_le (l0 : List S62) (l1 : List Int) (i : Nat) (h : G67 (zipS l0 l1)) : G67 (zipS (l0.drop i) (l1.drop i)) := by
  intro x hx
  refine h x ?_
  unfold zipS at hx ⊢
  rw [← List.drop_zipWith] at hx
  exact List.mem_of_mem_drop hx
theorem fitR_2 (n : Int) : (fitR n).2 = decide (R64 n) := by
  unfold fitR; by_cases h : R64 n
  · rw [if_pos h, decide_eq_true h]
  · rw [if_neg h, decide_eq_false h]
/-- How many times a variable stands in a form: what is met first. -/
def coefI : List S68 → Int → Int
  | [], _ => 0
  | m :: l, v => if m.f0 = v then m.f1 else coefI l v
theorem coefI_coef : ∀ (l : List S68) (last : Int), rightL last l = true → -1 ≤ last → ∀ v : Nat, coefI l v = coef l v := by
  intro l
  induction l with
  | nil => intro _ _ _ v; rfl
  | cons m l ih =>
    intro last h hl v
    have hr := h
    simp only [rightL, Bool.and_eq_true, decide_eq_true_eq] at h
    simp only [coefI, coef]
    by_cases e : m.f0 = (v : Int)
    · rw [if_pos e, if_pos e, coef_none l m.f0 h.2 v (by omega), Int.add_zero]
    · rw [if_neg e, if_neg e, Int.zero_add]; exact ih m.f0 h.2 (by omega) v
theorem right27_l0 (K : Int) (l : List S68) (hl : l.length ≤ 9223372036854775807) : ∀ (d i : Nat) (last : Int), l.length - i = d → i ≤ l.length →
    Ev (fun k => sequiturref27_Right.l0 k last i K l) (if rightL last (l.drop i) = true then 0 else 1) := by
  intro d
  induction d with
  | zero =>
    intro i last h1 h2
    refine Ev.succ (Ev.now fun k => ?_)
    simp only [sequiturref27_Right.l0]
    rw [if_neg (by omega), List.drop_eq_nil_of_le (by omega)]; rfl
  | succ d ih =>
    intro i last h1 h2
    have hi : i < l.length := by omega
    rw [List.drop_eq_getElem_cons hi]
    by_cases e : last < l[i].f0 ∧ l[i].f0 < 64 ∧ l[i].f1 ≠ 0
    · obtain ⟨e1, e2, e3⟩ := e
      refine Ev.succ (Ev.of (ih (i+1) l[i].f0 (by omega) (by omega)) fun k => ?_) |>.val ?_
      · simp only [sequiturref27_Right.l0]
        rw [if_pos (by omega), if_pos (by omega), rdM_at l i hi, if_neg (by omega), if_neg (by omega), if_neg e3, w64 (by omega) (by omega)]; rfl
      · simp only [rightL, decide_eq_true e1, decide_eq_true e2, decide_eq_true e3, Bool.true_and]
    · refine Ev.succ (Ev.now fun k => ?_)
      have hr : rightL last (l[i] :: l.drop (i+1)) = false := by
        simp only [rightL, Bool.and_eq_false_iff, decide_eq_false_iff_not]
        omega
      rw [hr]
      simp only [sequiturref27_Right.l0]
      rw [if_pos (by omega), if_pos (by omega), rdM_at l i hi]
      by_cases e1 : l[i].f0 ≤ last
      · rw [if_pos e1]; rfl
      by_cases e2 : l[i].f0 ≥ 64
      · rw [if_neg e1, if_pos e2]; rfl
      · rw [if_neg e1, if_neg e2, if_pos (by omega)]; rfl
theorem right27_ev (K : Int) (l : List S68) (hl : l.length ≤ 9223372036854775807) : Ev (fun k => sequiturref27_Right.f k K l) (if rightL (-1) l = true then 0 else 1) := by
  have := right27_l0 K l hl _ 0 (-1) rfl (by omega)
  exact this
theorem by27_l0 (K : Int) (l : List S68) (v : Int) (hlen : l.length ≤ 1000000) : ∀ (n i : Nat) (last : Int), l.length - i = n → i ≤ l.length → rightL last (l.drop i) = true →
    Ev (fun k => sequiturref27_By.l0 k v i K l) (coefI (l.drop i) v) := by
  intro n
  induction n with
  | zero =>
    intro i last h1 h2 _
    refine Ev.succ (Ev.now fun k => ?_)
    simp only [sequiturref27_By.l0]
    rw [if_neg (by omega), List.drop_eq_nil_of_le (by omega)]; rfl
  | succ n ih =>
    intro i last h1 h2 hr
    have hi : i < l.length := by omega
    rw [List.drop_eq_getElem_cons hi] at hr ⊢
    have hr2 := hr
    simp only [rightL, Bool.and_eq_true, decide_eq_true_eq] at hr2
    by_cases e : l[i].f0 = v
    · refine Ev.succ (Ev.now fun k => ?_)
      simp only [sequiturref27_By.l0, coefI]
      rw [if_pos (by omega), if_pos (by omega), rdM_at l i hi, if_pos e, if_pos e]
    · refine (Ev.succ (Ev.of (ih (i+1) l[i].f0 (by omega) (by omega) hr2.2) fun k => ?_)).val ?_
      · simp only [sequiturref27_By.l0]
        rw [if_pos (by omega), if_pos (by omega), rdM_at l i hi, if_neg e, w64 (by omega) (by omega)]; rfl
      · simp only [coefI]; rw [if_neg e]
theorem by27_ev (K : Int) (l : List S68) (v : Int) (hr : rightL (-1) l = true) : Ev (fun k => sequiturref27_By.f k K l v) (coefI l v) := by
  have hl := rightL_len l (-1) (by omega) hr
  have := by27_l0 K l v (by omega) _ 0 (-1) rfl (by omega) (by rw [List.drop_zero]; exact hr)
  exact this
/-- A total: its upper and its lower sum, and what it comes to. -/
def tv (H L : Int) : Int := H * 18446744073709551616 + L
theorem More27_ev (H L : Int) {a b : Int} (ha : R64 a) (hb : R64 b) : Ev (fun k => sequiturref27_More.f k (hiW H) (loW H) (hiW L) (loW L) a b) (hiW (H + a * b / 18446744073709551616), loW (H + a * b / 18446744073709551616), hiW (L + a * b % 18446744073709551616), loW (L + a * b % 18446744073709551616)) := by
  have hp := mul_R64 ha hb
  have ht : Ev (fun k => sequiturref01_Times.f k a b) (hiW (a * b), loW (a * b)) := Times_ev ha.1 ha.2 hb.1 hb.2
  refine Ev.bind ht (Ev.now fun k => ?_)
  generalize a * b = p at *
  simp only
  rw [hiW_small hp.1 hp.2, Of_eq (by omega) (by omega)]
  simp only [Option.bind_some]
  rw [Plus_eq]
  simp only [Option.bind_some]
  have e0 : (0 : Int) = hiW (p % 18446744073709551616) := by unfold hiW wrap64; omega
  have e1 : loW p = loW (p % 18446744073709551616) := by unfold loW; omega
  rw [e1]
  have := Plus_eq L (p % 18446744073709551616)
  rw [← e0] at this
  rw [this]; rfl
theorem TFits27_eq {H L : Int} (h1 : -1000000000000000000000000000 ≤ H) (h2 : H ≤ 1000000000000000000000000000) (h3 : 0 ≤ L) (h4 : L ≤ 1000000000000000000000000000) : sequiturref27_Fits.f (hiW H) (loW H) (hiW L) (loW L) = some (fitR (tv H L)) := by
  unfold sequiturref27_Fits.f
  have hc : hiW L = L / 18446744073709551616 := by unfold hiW; rw [w64 (by omega) (by omega)]
  rw [hc, Of_eq (by omega) (by omega)]
  simp only [Option.bind_some]
  rw [Plus_eq]
  simp only [Option.bind_some]
  rw [Fits_eq _ (by omega) (by omega), fitI_R]
  simp only [Option.bind_some]
  have ht : H + L / 18446744073709551616 = tv H L / 18446744073709551616 := by unfold tv; omega
  have hm : loW L = loW (tv H L) := by unfold loW tv; omega
  have hb1 : -3138550867693340381917894711603833208051177722232017256448 ≤ tv H L := by unfold tv; omega
  have hb2 : tv H L < 3138550867693340381917894711603833208051177722232017256448 := by unfold tv; omega
  rw [ht, hm]
  generalize tv H L = s at *
  unfold fitR
  by_cases e : R64 (s / 18446744073709551616)
  · rw [if_pos e]
    simp only [if_true]
    have e1 := e.1
    have e2 := e.2
    have hh : s / 18446744073709551616 = hiW s := by unfold hiW; rw [w64 (by omega) (by omega)]
    rw [hh, Fits_eq s (by omega) (by omega), fitI_R]
    rfl
  · rw [if_neg e]
    simp only [Bool.false_eq_true, if_false]
    rw [if_neg (fun h : R64 s => e (by have := h.1; have := h.2; exact ⟨by omega, by omega⟩))]
/-- What a place of a sum comes to: -1 the constant's, else the variable's. -/
def pt (v : Int) (q : S62) : Int := if v < 0 then q.f0 else coefI q.f1 v
def ps (v : Int) : List S158 → Int
  | [] => 0
  | x :: l => pt v x.f0 * x.f1 + ps v l
theorem ps_neg (l : List S158) : ps (-1) l = kS l := by
  induction l with
  | nil => rfl
  | cons x l ih => simp only [ps, kS, pt]; rw [ih, if_pos (by omega)]
theorem ps_nat (v : Nat) : ∀ l : List S158, G67 l → ps (v : Int) l = csum l v := by
  intro l
  induction l with
  | nil => intro _; rfl
  | cons x l ih =>
    intro h
    have hx := h x (List.mem_cons_self ..)
    simp only [ps, csum, pt]
    rw [ih (G67_tail h), if_neg (by omega), coefI_coef x.f0.f1 (-1) hx.2.1 (by omega) v]
theorem coefI_R64 : ∀ (l : List S68) (v : Int), M64 l → R64 (coefI l v) := by
  intro l v
  induction l with
  | nil => intro _; exact ⟨by simp [coefI], by simp [coefI]⟩
  | cons m l ih =>
    intro hM
    simp only [coefI]
    split
    · exact (hM m (List.mem_cons_self ..)).2
    · exact ih (fun a ha => hM a (List.mem_cons_of_mem _ ha))
theorem st_tv {H L p r t : Int} (h : tv H L + (p + r) = t) : tv (H + p / 18446744073709551616) (L + p % 18446744073709551616) + r = t := by unfold tv at *; omega
theorem st_lo {i H p : Int} (b : -(i * 9223372036854775808) ≤ H) (hp : -85070591730234615865843651857942052864 ≤ p) : -((i + 1) * 9223372036854775808) ≤ H + p / 18446744073709551616 := by omega
theorem st_hi {i H p : Int} (b : H ≤ i * 9223372036854775808) (hp : p ≤ 85070591730234615865843651857942052864) : H + p / 18446744073709551616 ≤ (i + 1) * 9223372036854775808 := by omega
theorem st_nn {L p : Int} (b : 0 ≤ L) : 0 ≤ L + p % 18446744073709551616 := by omega
theorem st_up {i L p : Int} (b : L ≤ i * 18446744073709551616) : L + p % 18446744073709551616 ≤ (i + 1) * 18446744073709551616 := by omega
theorem ref27_l2 (l0 : List S62) (l1 : List Int) (hG : G67 (zipS l0 l1)) (he : l0.length = l1.length) (hlen : l0.length ≤ 1000000) (ok : Bool) (v : Int) (hv : -1 ≤ v) (hv2 : v < 64) (K : Int) (L0 : List S68) (R : Int × List S68 × Int)
    (HH : Ev (fun k => sequiturref27_Sum.j3 k l0 l1 (ok && (fitR (ps v (zipS l0 l1))).2) v (fitR (ps v (zipS l0 l1))).1 K L0) R) :
    ∀ (n i : Nat) (H L : Int), l0.length - i = n → i ≤ l0.length → tv H L + ps v (zipS (l0.drop i) (l1.drop i)) = ps v (zipS l0 l1) → -(i * 9223372036854775808 : Int) ≤ H → H ≤ i * 9223372036854775808 → 0 ≤ L → L ≤ i * 18446744073709551616 →
    Ev (fun k => sequiturref27_Sum.l2 k l0 l1 ok v i K L0 (hiW H) (loW H) (hiW L) (loW L)) R := by
  intro n
  induction n with
  | zero =>
    intro i H L h1 h2 hs b1 b2 b3 b4
    rw [List.drop_eq_nil_of_le (by omega), show zipS [] (l1.drop i) = [] from rfl] at hs
    simp only [ps, Int.add_zero] at hs
    have hi6 : (i : Int) ≤ 1000000 := by omega
    have hs2 := hs
    have HH2 := HH
    clear hG HH hs
    have q1 : -1000000000000000000000000000 ≤ H := by
      have : (i : Int) * 9223372036854775808 ≤ 1000000 * 9223372036854775808 := Int.mul_le_mul_of_nonneg_right hi6 (by decide)
      exact Int.le_trans (Int.le_trans (by decide) (Int.neg_le_neg this)) b1
    have q2 : H ≤ 1000000000000000000000000000 := by
      have : (i : Int) * 9223372036854775808 ≤ 1000000 * 9223372036854775808 := Int.mul_le_mul_of_nonneg_right hi6 (by decide)
      exact Int.le_trans b2 (Int.le_trans this (by decide))
    have q4 : L ≤ 1000000000000000000000000000 := by
      have : (i : Int) * 18446744073709551616 ≤ 1000000 * 18446744073709551616 := Int.mul_le_mul_of_nonneg_right hi6 (by decide)
      exact Int.le_trans b4 (Int.le_trans this (by decide))
    have hf : sequiturref27_Fits.f (hiW H) (loW H) (hiW L) (loW L) = some (fitR (tv H L)) := TFits27_eq q1 q2 b3 q4
    rw [← hs2] at HH2
    refine Ev.succ (Ev.of HH2 fun k => ?_)
    simp only [sequiturref27_Sum.l2]
    rw [if_neg (by omega), hf]
    simp only [Option.bind_some]
    cases ok
    · simp only [Bool.false_eq_true, if_false, Bool.false_and]
    · simp only [if_true, Bool.true_and]
  | succ n ih =>
    intro i H L h1 h2 hs b1 b2 b3 b4
    have hi : i < l0.length := by omega
    have hi1 : i < l1.length := by omega
    rw [List.drop_eq_getElem_cons hi, List.drop_eq_getElem_cons hi1, zipS_cons] at hs
    have hg := kS_zip_le l0 l1 i hG
    rw [List.drop_eq_getElem_cons hi, List.drop_eq_getElem_cons hi1, zipS_cons] at hg
    have hx := hg _ (List.mem_cons_self ..)
    have hP : R64 (pt v l0[i]) := by
      unfold pt
      split
      · exact hx.1
      · exact coefI_R64 _ _ hx.2.2.1
    have hp := mul_R64 hP hx.2.2.2
    have n1 : (i : Int) < (l0.length : Int) := by clear b1 b2 b3 b4 hs hp; omega
    have n2 : (0 : Int) ≤ (i : Int) := Int.natCast_nonneg i
    have n3 : (i : Int) < (l1.length : Int) := by clear b1 b2 b3 b4 hs hp; omega
    have hi2 : ((i + 1 : Nat) : Int) = (i : Int) + 1 := by simp
    have hI := ih (i+1) (H + pt v l0[i] * l1[i] / 18446744073709551616) (L + pt v l0[i] * l1[i] % 18446744073709551616) (by clear b1 b2 b3 b4 hs hp; omega) (by clear b1 b2 b3 b4 hs hp; omega) (st_tv hs) (by rw [hi2]; exact st_lo b1 hp.1) (by rw [hi2]; exact st_hi b2 hp.2) (st_nn b3) (by rw [hi2]; exact st_up b4)
    have hM := More27_ev H L hP hx.2.2.2
    have hw : wrap64 ((i:Int) + 1) = ((i+1 : Nat) : Int) := by clear b1 b2 b3 b4 hs hp hM hI; rw [w64 (by omega) (by omega)]; omega
    by_cases c : v < 0
    · have hpt : pt v l0[i] = l0[i].f0 := if_pos c
      rw [hpt] at hM hI
      refine Ev.succ (Ev.of (Ev.bind (g := fun k bt => sequiturref27_Sum.l2 k l0 l1 ok v ((i+1 : Nat) : Int) K L0 bt.1 bt.2.1 bt.2.2.1 bt.2.2.2) hM hI) fun k => ?_)
      simp only [sequiturref27_Sum.l2]
      rw [if_pos n1, if_pos c, if_pos n2, if_pos n3, rdQ_at l0 i hi, rd_at l1 i hi1, hw]
    · have hpt : pt v l0[i] = coefI l0[i].f1 v := if_neg c
      rw [hpt] at hM hI
      refine Ev.succ (Ev.of (Ev.bind (g := fun k t => (sequiturref27_More.f k (hiW H) (loW H) (hiW L) (loW L) t l1[i]).bind fun bt => sequiturref27_Sum.l2 k l0 l1 ok v ((i+1 : Nat) : Int) K L0 bt.1 bt.2.1 bt.2.2.1 bt.2.2.2) (by27_ev l0[i].f0 l0[i].f1 v hx.2.1) (Ev.bind hM hI)) fun k => ?_)
      simp only [sequiturref27_Sum.l2]
      rw [if_pos n1, if_neg c, if_pos n2, rdQ_at l0 i hi, hw, rd_at l1 i hi1]
      congr 1
      funext t
      rw [if_pos n3]
theorem tot27 : hiW 0 = 0 ∧ loW 0 = 0 := ⟨hiW0, loW0⟩
theorem ref27_l1 (l0 : List S62) (l1 : List Int) (hG : G67 (zipS l0 l1)) (he : l0.length = l1.length) (hlen : l0.length ≤ 1000000) (K : Int) (ok0 : Bool) : ∀ (n v : Nat) (ok : Bool) (L : List S68), 64 - v = n → v ≤ 64 → L = linOf (fun v => (fitR (csum (zipS l0 l1) v)).1) v → ok = (ok0 && (List.range v).all fun v => (fitR (csum (zipS l0 l1) v)).2) →
    Ev (fun k => sequiturref27_Sum.l1 k l0 l1 ok v K L) (if (ok0 && (List.range 64).all fun v => (fitR (csum (zipS l0 l1) v)).2) = true then (K, linOf (fun v => (fitR (csum (zipS l0 l1) v)).1) 64, 0) else (0, [], 5)) := by
  intro n
  induction n with
  | zero =>
    intro v ok L h1 h2 hL hok
    obtain rfl : v = 64 := by omega
    refine Ev.succ ?_
    simp only [sequiturref27_Sum.l1]
    refine Ev.neg (by omega) ?_
    subst hL hok
    exact Ev.now fun _ => by split <;> rfl
  | succ n ih =>
    intro v ok L h1 h2 hL hok
    have hLl : L.length ≤ 64 := by rw [hL]; have := linOf_len (fun v => (fitR (csum (zipS l0 l1) v)).1) v; omega
    refine Ev.succ ?_
    simp only [sequiturref27_Sum.l1]
    refine Ev.pos (by omega) ?_
    have hps : ps (v : Int) (zipS l0 l1) = csum (zipS l0 l1) v := ps_nat v _ hG
    have h0 := ref27_l2 l0 l1 hG he hlen ok v (by omega) (by omega) K L (if (ok0 && (List.range 64).all fun v => (fitR (csum (zipS l0 l1) v)).2) = true then (K, linOf (fun v => (fitR (csum (zipS l0 l1) v)).1) 64, 0) else (0, [], 5)) (by
      rw [hps]
      have hI := ih (v+1) (ok && (fitR (csum (zipS l0 l1) v)).2) (if (fitR (csum (zipS l0 l1) v)).1 = 0 then L else L ++ [⟨(v:Int), (fitR (csum (zipS l0 l1) v)).1⟩]) (by omega) (by omega) (by
        rw [linOf_succ, ← hL]
        split
        · rw [List.append_nil]
        · rfl) (by rw [hok, List.range_succ, List.all_append, ← Bool.and_assoc]; simp only [List.all_cons, List.all_nil, Bool.and_true])
      refine Ev.succ (Ev.of hI fun k => ?_)
      simp only [sequiturref27_Sum.j3]
      rw [if_neg (by omega), show wrap64 ((v:Int) + 1) = ((v+1 : Nat) : Int) by rw [w64 (by omega) (by omega)]; omega]
      by_cases z : (fitR (csum (zipS l0 l1) v)).1 = 0
      · rw [if_pos z, if_pos z]
      · rw [if_neg z, if_neg z, if_pos (by omega)]) _ 0 0 0 rfl (by omega) (by rw [List.drop_zero, List.drop_zero]; unfold tv; omega) (by omega) (by omega) (by omega) (by omega)
    rw [tot27.1, tot27.2] at h0
    exact h0
theorem ref27_l0 (l0 : List S62) (l1 : List Int) (hq : ∀ q ∈ l0, q.f1.length ≤ 9223372036854775807) (hlen : l0.length ≤ 1000000) (R : Int × List S68 × Int) (HH : l0.all (fun q => rightL (-1) q.f1) = true → Ev (fun k => sequiturref27_Sum.l1 k l0 l1 true (-1) 0 []) R) :
    ∀ (n i : Nat), l0.length - i = n → i ≤ l0.length → ((l0.take i).all (fun q => rightL (-1) q.f1) = true) → Ev (fun k => sequiturref27_Sum.l0 k l0 l1 i) (if (l0.drop i).all (fun q => rightL (-1) q.f1) = true then R else (0, [], 1)) := by
  intro n
  induction n with
  | zero =>
    intro i h1 h2 ht
    rw [List.drop_eq_nil_of_le (by omega), if_pos (by rfl)]
    rw [List.take_of_length_le (by omega)] at ht
    refine Ev.succ ?_
    simp only [sequiturref27_Sum.l0]
    exact Ev.neg (by omega) (HH ht)
  | succ n ih =>
    intro i h1 h2 ht
    have hi : i < l0.length := by omega
    have hr := right27_ev l0[i].f0 l0[i].f1 (hq _ (List.getElem_mem hi))
    rw [List.drop_eq_getElem_cons hi, List.all_cons]
    refine Ev.succ ?_
    simp only [sequiturref27_Sum.l0]
    refine Ev.pos (by omega) (Ev.pos (by omega) ?_)
    rw [rdQ_at l0 i hi, show wrap64 ((i:Int) + 1) = ((i+1 : Nat) : Int) by rw [w64 (by omega) (by omega)]; omega]
    refine Ev.bind hr ?_
    by_cases e : rightL (-1) l0[i].f1 = true
    · rw [e, Bool.true_and]
      refine Ev.pos (by rw [if_pos rfl]) (ih (i+1) (by omega) (by omega) ?_)
      rw [List.take_succ_eq_append_getElem hi, List.all_append, ht]
      simp [e]
    · rw [show rightL (-1) l0[i].f1 = false by simpa using e]
      exact Ev.neg (by simp) (Ev.now fun _ => by simp)
theorem refSum27_ev (l0 : List S62) (l1 : List Int) (h0 : ∀ q ∈ l0, R64 q.f0 ∧ M64 q.f1 ∧ q.f1.length ≤ 9223372036854775807) (h1 : I64 l1) (hlen : l0.length ≤ 1000000) : Ev (fun k => sequiturref27_Sum.f k l0 l1) (sumD l0 l1) := by
  unfold sumD
  by_cases e2 : l0.length = l1.length
  · refine Ev.pos (by omega) ((ref27_l0 l0 l1 (fun q hq => (h0 q hq).2.2) hlen (sumR (zipS l0 l1)) (fun hr => ?_) _ 0 rfl (by omega) (by simp)).val ?_)
    · have hG : G67 (zipS l0 l1) := zipS_G67 (fun q hq => ⟨(h0 q hq).1, (h0 q hq).2.1⟩) hr h1
      refine Ev.succ ?_
      simp only [sequiturref27_Sum.l1]
      refine Ev.pos (by omega) ?_
      have h2 := ref27_l2 l0 l1 hG e2 hlen true (-1) (by omega) (by omega) 0 [] (sumR (zipS l0 l1)) (by
        refine Ev.succ ?_
        simp only [sequiturref27_Sum.j3]
        refine Ev.pos (by omega) ?_
        rw [ps_neg, Bool.true_and, show wrap64 (-1 + 1) = ((0 : Nat) : Int) by rw [w64 (by omega) (by omega)]; rfl]
        refine (ref27_l1 l0 l1 hG e2 hlen (fitR (kS (zipS l0 l1))).1 (fitR (kS (zipS l0 l1))).2 _ 0 (fitR (kS (zipS l0 l1))).2 [] rfl (by omega) rfl (by simp)).val ?_
        have hall : ((List.range 64).all fun v => (fitR (csum (zipS l0 l1) v)).2) = fitsC (csum (zipS l0 l1)) := by
          unfold fitsC
          congr 1
          funext v
          exact fitR_2 _
        rw [hall, fitR_2]
        unfold sumR
        by_cases e : R64 (kS (zipS l0 l1)) ∧ fitsC (csum (zipS l0 l1)) = true
        · rw [if_pos e, if_pos (by rw [e.2, decide_eq_true e.1]; rfl)]
          have hf := fitsC_R64 e.2
          rw [show fitR (kS (zipS l0 l1)) = (kS (zipS l0 l1), true) from if_pos e.1]
          congr 2
          exact linOf_congr (fun i hi => by rw [show fitR (csum (zipS l0 l1) i) = (csum (zipS l0 l1) i, true) from if_pos (hf i hi)])
        · rw [if_neg e, if_neg (by simp only [Bool.and_eq_true, decide_eq_true_eq]; exact e)]) _ 0 0 0 rfl (by omega) (by rw [List.drop_zero, List.drop_zero]; unfold tv; omega) (by omega) (by omega) (by omega) (by omega)
      rw [tot27.1, tot27.2] at h2
      exact h2
    · rw [List.drop_zero]
      by_cases e : l0.all (fun q => rightL (-1) q.f1) = true
      · rw [if_pos e, if_pos ⟨e, e2⟩]
      · rw [if_neg e, if_neg (fun h => e h.1)]
  · rw [if_neg (fun h => e2 h.2)]
    exact Ev.neg (by omega) (Ev.now fun _ => rfl)
theorem monos_l0 (l : List S68) (hlen : l.length ≤ 1000000) : ∀ (n i : Nat), l.length - i = n → i ≤ l.length → Ev (fun k => sequiturbase_Monos.l0 k l l i) true := by
  intro n
  induction n with
  | zero =>
    intro i h1 h2
    refine Ev.succ (Ev.now fun k => ?_)
    simp only [sequiturbase_Monos.l0]
    rw [if_neg (by omega)]
  | succ n ih =>
    intro i h1 h2
    refine Ev.succ (Ev.of (ih (i+1) (by omega) (by omega)) fun k => ?_)
    simp only [sequiturbase_Monos.l0]
    rw [if_pos (by omega), if_pos (by omega), if_pos (by omega), if_neg (by simp), w64 (by omega) (by omega)]; rfl
theorem baseLin_ev (K : Int) (l : List S68) (hlen : l.length ≤ 1000000) : Ev (fun k => sequiturbase_Lin.f k K l K l) true := by
  have hm : Ev (fun k => sequiturbase_Monos.f k l l) true := Ev.pos rfl (monos_l0 l hlen _ 0 rfl (by omega))
  exact Ev.pos rfl (Ev.bind hm (Ev.now fun _ => rfl))
theorem linBy_l0 (l : List S68) (v : Int) (hlen : l.length ≤ 9223372036854775807) : ∀ (n i : Nat), l.length - i = n → i ≤ l.length → Ev (fun k => lin_By.l0 k v l (l.length : Int) i) (coefI (l.drop i) v) := by
  intro n
  induction n with
  | zero =>
    intro i h1 h2
    refine Ev.succ (Ev.now fun k => ?_)
    simp only [lin_By.l0]
    rw [if_neg (by omega), List.drop_eq_nil_of_le (by omega)]; rfl
  | succ n ih =>
    intro i h1 h2
    have hi : i < l.length := by omega
    rw [List.drop_eq_getElem_cons hi]
    by_cases e : l[i].f0 = v
    · refine Ev.succ (Ev.now fun k => ?_)
      simp only [lin_By.l0, coefI]
      rw [if_pos (by omega), if_pos (by omega), if_pos (by omega), rdM_at l i hi, if_pos e, if_pos e]
    · refine (Ev.succ (Ev.of (ih (i+1) (by omega) (by omega)) fun k => ?_)).val ?_
      · simp only [lin_By.l0]
        rw [if_pos (by omega), if_pos (by omega), if_pos (by omega), rdM_at l i hi, if_neg e, w64 (by omega) (by omega)]; rfl
      · simp only [coefI]; rw [if_neg e]
theorem linBy_ev (K : Int) (l : List S68) (v : Int) (hlen : l.length ≤ 9223372036854775807) : Ev (fun k => lin_By.f k K l v) (coefI l v) := by
  have := linBy_l0 l v hlen _ 0 rfl (by omega)
  exact this
theorem by27g_l0 (K : Int) (l : List S68) (v : Int) (hlen : l.length ≤ 1000000) : ∀ (n i : Nat), l.length - i = n → i ≤ l.length → Ev (fun k => sequiturref27_By.l0 k v i K l) (coefI (l.drop i) v) := by
  intro n
  induction n with
  | zero =>
    intro i h1 h2
    refine Ev.succ (Ev.now fun k => ?_)
    simp only [sequiturref27_By.l0]
    rw [if_neg (by omega), List.drop_eq_nil_of_le (by omega)]; rfl
  | succ n ih =>
    intro i h1 h2
    have hi : i < l.length := by omega
    rw [List.drop_eq_getElem_cons hi]
    by_cases e : l[i].f0 = v
    · refine Ev.succ (Ev.now fun k => ?_)
      simp only [sequiturref27_By.l0, coefI]
      rw [if_pos (by omega), if_pos (by omega), rdM_at l i hi, if_pos e, if_pos e]
    · refine (Ev.succ (Ev.of (ih (i+1) (by omega) (by omega)) fun k => ?_)).val ?_
      · simp only [sequiturref27_By.l0]
        rw [if_pos (by omega), if_pos (by omega), rdM_at l i hi, if_neg e, w64 (by omega) (by omega)]; rfl
      · simp only [coefI]; rw [if_neg e]
theorem by27g_ev (K : Int) (l : List S68) (v : Int) (hlen : l.length ≤ 1000000) : Ev (fun k => sequiturref27_By.f k K l v) (coefI l v) := by
  have := by27g_l0 K l v hlen _ 0 rfl (by omega)
  exact this
def cf (v : Int) (q : S70) : Int := coefI q.f0.f1 v
def okI (q : S70) : Bool := !q.f1 && rightL (-1) q.f0.f1
def wrongB (l : List S70) (v : Int) : Bool := decide (v < 0) || decide (v ≥ 64) || !(l.all okI)
theorem wrong1_ev (K : Int) (l : List S68) (b : Bool) (hlen : l.length ≤ 9223372036854775807) : Ev (fun k => shadow_wrong_1.f k K l b) (!okI ⟨⟨K, l⟩, b⟩) := by
  cases b
  · refine Ev.neg (by simp) (Ev.bind (iRight_ev K l false hlen) (Ev.now fun _ => ?_))
    unfold okI
    by_cases e : rightL (-1) l = true
    · simp [e]
    · simp [e]
  · exact Ev.pos rfl (Ev.now fun _ => rfl)
theorem idx30_l0 (l : List S70) (hl : l.length ≤ 1000000) (hm : ∀ q ∈ l, q.f0.f1.length ≤ 9223372036854775807) : ∀ (d i : Nat), l.length - i = d → i ≤ l.length →
    ∃ v, Ev (fun k => api_Ineq_104.l0 k l (l.length:Int) i) v ∧ decide (v ≥ 0) = !((l.drop i).all okI) := by
  intro d
  induction d with
  | zero =>
    intro i h1 h2
    refine ⟨-1, Ev.succ (Ev.now fun k => ?_), ?_⟩
    · simp only [api_Ineq_104.l0]
      rw [if_neg (by omega)]
    · rw [List.drop_eq_nil_of_le (by omega)]; rfl
  | succ d ih =>
    intro i h1 h2
    have hi : i < l.length := by omega
    rw [List.drop_eq_getElem_cons hi]
    have hq := wrong1_ev l[i].f0.f0 l[i].f0.f1 l[i].f1 (hm _ (List.getElem_mem hi))
    obtain ⟨v, ev, hv⟩ := ih (i+1) (by omega) (by omega)
    have hs : ∀ k, api_Ineq_104.l0 (k+1) l (l.length:Int) i = (shadow_wrong_1.f k l[i].f0.f0 l[i].f0.f1 l[i].f1).bind fun t => if t = true then some (i:Int) else api_Ineq_104.l0 k l (l.length:Int) ((i+1 : Nat) : Int) := by
      intro k
      simp only [api_Ineq_104.l0]
      rw [if_pos (by omega), if_pos (by omega), if_pos (by omega), rdI_at l i hi, w64 (by omega) (by omega)]; rfl
    by_cases e : okI l[i] = true
    · rw [show (⟨⟨l[i].f0.f0, l[i].f0.f1⟩, l[i].f1⟩ : S70) = l[i] from rfl, e] at hq
      refine ⟨v, Ev.succ (Ev.of (Ev.bind hq ?_) hs), ?_⟩
      · exact Ev.of ev fun k => by simp
      · rw [hv, List.all_cons, e, Bool.true_and]
    · have e' : okI l[i] = false := by simpa using e
      rw [show (⟨⟨l[i].f0.f0, l[i].f0.f1⟩, l[i].f1⟩ : S70) = l[i] from rfl, e'] at hq
      refine ⟨i, Ev.succ (Ev.of (Ev.bind hq ?_) hs), ?_⟩
      · exact Ev.now fun k => by simp
      · rw [List.all_cons, e']; simp
theorem wrong_ev (l : List S70) (v : Int) (hl : l.length ≤ 1000000) (hm : ∀ q ∈ l, q.f0.f1.length ≤ 9223372036854775807) : Ev (fun k => shadow_wrong.f k l v) (wrongB l v) := by
  unfold wrongB
  by_cases a : v < 0
  · exact Ev.pos a (Ev.now fun _ => by rw [decide_eq_true a]; rfl)
  by_cases b : v ≥ 64
  · exact Ev.neg a (Ev.pos b (Ev.now fun _ => by rw [decide_eq_true b]; simp))
  refine Ev.neg a (Ev.neg b ?_)
  obtain ⟨u, ev, hu⟩ := idx30_l0 l hl hm _ 0 rfl (by omega)
  rw [List.drop_zero] at hu
  rw [decide_eq_false a, decide_eq_false b, Bool.false_or, Bool.false_or]
  exact Ev.bind (v := !(l.all okI)) (Ev.bind ev (Ev.now fun _ => by rw [hu])) (Ev.now fun _ => rfl)
theorem wrongB_not {l : List S70} {v : Int} (h : wrongB l v = false) : 0 ≤ v ∧ v < 64 ∧ ∀ q ∈ l, q.f1 = false ∧ rightL (-1) q.f0.f1 = true := by
  unfold wrongB at h
  simp only [Bool.or_eq_false_iff, decide_eq_false_iff_not, Bool.not_eq_false', List.all_eq_true] at h
  refine ⟨by omega, by omega, fun q hq => ?_⟩
  have := h.2 q hq
  unfold okI at this
  simpa using this
theorem right30_l0 (l : List S70) (v : Int) (hl : l.length ≤ 1000000) (hm : ∀ q ∈ l, q.f0.f1.length ≤ 9223372036854775807) : ∀ (d i : Nat), l.length - i = d → i ≤ l.length →
    Ev (fun k => sequiturref30_Right.l0 k l v i) ((l.drop i).all okI && decide (v ≥ 0) && decide (v < 64)) := by
  intro d
  induction d with
  | zero =>
    intro i h1 h2
    rw [List.drop_eq_nil_of_le (by omega)]
    refine Ev.succ ?_
    simp only [sequiturref30_Right.l0]
    refine Ev.neg (by omega) ?_
    by_cases a : v ≥ 0
    · exact Ev.pos a (Ev.now fun _ => by rw [decide_eq_true a]; rfl)
    · exact Ev.neg a (Ev.now fun _ => by rw [decide_eq_false a]; rfl)
  | succ d ih =>
    intro i h1 h2
    have hi : i < l.length := by omega
    rw [List.drop_eq_getElem_cons hi, List.all_cons]
    refine Ev.succ ?_
    simp only [sequiturref30_Right.l0]
    rw [rdI_at l i hi, show wrap64 ((i:Int) + 1) = ((i+1 : Nat) : Int) by rw [w64 (by omega) (by omega)]; omega]
    refine Ev.pos (by omega) (Ev.pos (by omega) ?_)
    have hI := ih (i+1) (by omega) (by omega)
    unfold okI
    by_cases a : l[i].f1 = true
    · exact Ev.pos a (Ev.now fun _ => by rw [a]; rfl)
    · refine Ev.neg a (Ev.bind (right27_ev l[i].f0.f0 l[i].f0.f1 (hm _ (List.getElem_mem hi))) ?_)
      rw [show l[i].f1 = false by simpa using a]
      by_cases e : rightL (-1) l[i].f0.f1 = true
      · refine (Ev.pos (by rw [if_pos e]) hI).val ?_
        rw [e]; rfl
      · refine Ev.neg (by rw [if_neg e]; decide) (Ev.now fun _ => ?_)
        rw [show rightL (-1) l[i].f0.f1 = false by simpa using e]; rfl
theorem right30_ev (l : List S70) (v : Int) (hl : l.length ≤ 1000000) (hm : ∀ q ∈ l, q.f0.f1.length ≤ 9223372036854775807) : Ev (fun k => sequiturref30_Right.f k l v) (!wrongB l v) := by
  refine (right30_l0 l v hl hm _ 0 rfl (by omega)).val ?_
  unfold wrongB
  rw [List.drop_zero]
  by_cases a : v < 0
  · rw [decide_eq_true a, decide_eq_false (show ¬ v ≥ 0 by omega)]; simp
  · by_cases b : v ≥ 64
    · rw [decide_eq_false (show ¬ v < 64 by omega), decide_eq_true b]; simp
    · rw [decide_eq_false a, decide_eq_false b, decide_eq_true (show v ≥ 0 by omega), decide_eq_true (show v < 64 by omega)]; simp
/-- Does a sign fit? -/
def sgD (s n : Int) : Bool := (decide (n < 0) && decide (s < 0)) || (decide (n > 0) && decide (s > 0)) || (decide (n = 0) && decide (s = 0))
/-- The places of those whose sign fits. -/
def bnd (s v : Int) : List S70 → Int → List Int
  | [], _ => []
  | q :: l, i => if sgD s (cf v q) = true then i :: bnd s v l (i + 1) else bnd s v l (i + 1)
theorem bnd_len (s v : Int) : ∀ (l : List S70) (i : Int), (bnd s v l i).length ≤ l.length := by
  intro l
  induction l with
  | nil => intro i; simp [bnd]
  | cons q l ih =>
    intro i
    simp only [bnd]
    have := ih (i + 1)
    split <;> simp <;> omega
theorem bnd_mem (s v : Int) : ∀ (l : List S70) (i : Int), ∀ j ∈ bnd s v l i, i ≤ j ∧ j < i + l.length ∧ ∃ h : (j - i).toNat < l.length, sgD s (cf v (l[(j - i).toNat]'h)) = true := by
  intro l
  induction l with
  | nil => intro i j hj; simp [bnd] at hj
  | cons q l ih =>
    intro i j hj
    simp only [bnd] at hj
    have key : j ∈ bnd s v l (i + 1) → i ≤ j ∧ j < i + (q :: l).length ∧ ∃ h : (j - i).toNat < (q :: l).length, sgD s (cf v ((q :: l)[(j - i).toNat]'h)) = true := by
      intro hj
      obtain ⟨h1, h2, h3, h4⟩ := ih (i + 1) j hj
      refine ⟨by omega, by simp; omega, by simp; omega, ?_⟩
      have e : (j - i).toNat = (j - (i + 1)).toNat + 1 := by omega
      simp only [e, List.getElem_cons_succ]
      exact h4
    split at hj
    · rename_i hc
      rcases List.mem_cons.1 hj with rfl | hj
      · refine ⟨by omega, by simp; omega, by simp, ?_⟩
        simpa using hc
      · exact key hj
    · exact key hj
theorem bnd_if {α : Type} (t s : Int) (X Y : α) : (if t < 0 then (if s < 0 then X else (if t > 0 then (if s > 0 then X else (if t = 0 then (if s = 0 then X else Y) else Y)) else (if t = 0 then (if s = 0 then X else Y) else Y))) else (if t > 0 then (if s > 0 then X else (if t = 0 then (if s = 0 then X else Y) else Y)) else (if t = 0 then (if s = 0 then X else Y) else Y))) = if sgD s t = true then X else Y := by
  have e : sgD s t = true ↔ (t < 0 ∧ s < 0) ∨ (t > 0 ∧ s > 0) ∨ (t = 0 ∧ s = 0) := by
    unfold sgD
    simp only [Bool.or_eq_true, Bool.and_eq_true, decide_eq_true_eq, or_assoc]
  by_cases h : sgD s t = true
  · rw [if_pos h]
    rw [e] at h
    rcases h with ⟨a, b⟩ | ⟨a, b⟩ | ⟨a, b⟩
    · rw [if_pos a, if_pos b]
    · rw [if_neg (by omega), if_pos a, if_pos b]
    · rw [if_neg (by omega), if_neg (by omega), if_pos a, if_pos b]
  · rw [if_neg h]
    rw [e] at h
    by_cases a : t < 0
    · rw [if_pos a, if_neg (by omega), if_neg (by omega), if_neg (by omega)]
    · rw [if_neg a]
      by_cases b : t > 0
      · rw [if_pos b, if_neg (by omega), if_neg (by omega)]
      · rw [if_neg b, if_pos (by omega), if_neg (by omega)]
theorem bounds_l0 (s : Int) (l : List S70) (v : Int) (hl : l.length ≤ 1000000) (hm : ∀ q ∈ l, q.f0.f1.length ≤ 9223372036854775807) : ∀ (d i : Nat) (acc : List Int), l.length - i = d → i ≤ l.length → acc.length ≤ i →
    Ev (fun k => shadow_bounds_1.l0 k s acc l (l.length : Int) i v) (acc ++ bnd s v (l.drop i) i) := by
  intro d
  induction d with
  | zero =>
    intro i acc h1 h2 ha
    rw [List.drop_eq_nil_of_le (by omega)]
    refine Ev.succ ?_
    simp only [shadow_bounds_1.l0]
    exact Ev.neg (by omega) (Ev.now fun _ => by simp [bnd])
  | succ d ih =>
    intro i acc h1 h2 ha
    have hi : i < l.length := by omega
    rw [List.drop_eq_getElem_cons hi]
    have hb := linBy_ev l[i].f0.f0 l[i].f0.f1 v (hm _ (List.getElem_mem hi))
    have hs : ∀ k, shadow_bounds_1.l0 (k+1) s acc l (l.length:Int) i v = (lin_By.f k l[i].f0.f0 l[i].f0.f1 v).bind fun t => if sgD s t = true then shadow_bounds_1.l0 k s (acc ++ [(i:Int)]) l (l.length:Int) ((i+1 : Nat) : Int) v else shadow_bounds_1.l0 k s acc l (l.length:Int) ((i+1 : Nat) : Int) v := by
      intro k
      simp only [shadow_bounds_1.l0]
      rw [if_pos (by omega), if_pos (by omega), if_pos (by omega), rdI_at l i hi, show wrap64 ((i:Int) + 1) = ((i+1 : Nat) : Int) by rw [w64 (by omega) (by omega)]; omega]
      congr 1
      funext t
      rw [if_pos (show acc.length < 17592186044416 by omega)]
      exact bnd_if t s _ _
    refine Ev.succ (Ev.of (Ev.bind hb ?_) hs)
    simp only [bnd]
    by_cases c : sgD s (cf v l[i]) = true
    · rw [if_pos c]
      refine Ev.pos c ((ih (i+1) (acc ++ [(i:Int)]) (by omega) (by omega) (by simp; omega)).val ?_)
      rw [List.append_assoc]; rfl
    · rw [if_neg c]
      refine Ev.neg c ((ih (i+1) acc (by omega) (by omega) (by omega)).val ?_)
      rfl
theorem bounds_ev (s : Int) (l : List S70) (v : Int) (hl : l.length ≤ 1000000) (hm : ∀ q ∈ l, q.f0.f1.length ≤ 9223372036854775807) : Ev (fun k => shadow_bounds_1.f k s l v) (bnd s v l 0) := by
  have := bounds_l0 s l v hl hm _ 0 [] rfl (by omega) (by simp)
  exact this
theorem long30_l0 (l : List S70) (hl : l.length ≤ 1000000) : ∀ (d i : Nat), l.length - i = d → i ≤ l.length → Ev (fun k => sequiturref30_Long.l0 k l i) (!((l.drop i).all fun q => decide (q.f0.f1.length ≤ 70))) := by
  intro d
  induction d with
  | zero =>
    intro i h1 h2
    refine Ev.succ (Ev.now fun k => ?_)
    simp only [sequiturref30_Long.l0]
    rw [if_neg (by omega), List.drop_eq_nil_of_le (by omega)]; rfl
  | succ d ih =>
    intro i h1 h2
    have hi : i < l.length := by omega
    rw [List.drop_eq_getElem_cons hi, List.all_cons]
    refine Ev.succ ?_
    simp only [sequiturref30_Long.l0]
    rw [rdI_at l i hi]
    refine Ev.pos (by omega) (Ev.pos (by omega) ?_)
    by_cases e : l[i].f0.f1.length ≤ 70
    · refine Ev.neg (by omega) (((ih (i+1) (by omega) (by omega)).of fun k => ?_).val ?_)
      · rw [w64 (by omega) (by omega)]; rfl
      · rw [decide_eq_true e, Bool.true_and]
    · refine Ev.pos (by omega) (Ev.now fun _ => ?_)
      rw [decide_eq_false e]; rfl
def longI (l : List S70) (n : Int) : Bool := decide ((l.length : Int) > n) || !(l.all fun q => decide (q.f0.f1.length ≤ 70))
theorem long30_ev (l : List S70) (n : Int) (hn : n ≤ 1000000) : Ev (fun k => sequiturref30_Long.f k l n) (longI l n) := by
  unfold longI
  by_cases e : (l.length : Int) > n
  · refine Ev.pos e (Ev.now fun _ => ?_)
    rw [decide_eq_true e]; rfl
  · refine Ev.neg e ((long30_l0 l (by omega) _ 0 rfl (by omega)).val ?_)
    rw [decide_eq_false e, List.drop_zero, Bool.false_or]
theorem longI_not {l : List S70} {n : Int} (h : longI l n = false) : (l.length : Int) ≤ n ∧ ∀ q ∈ l, q.f0.f1.length ≤ 70 := by
  unfold longI at h
  rw [Bool.or_eq_false_iff] at h
  refine ⟨by simpa using h.1, fun q hq => ?_⟩
  have h2 : (l.all fun q => decide (q.f0.f1.length ≤ 70)) = true := by simpa using h.2
  simpa using List.all_eq_true.1 h2 q hq
theorem alive30_ev : Ev (fun k => sequiturlaw30_alive.f k) true := Ev.mono 200 sequiturlaw30_alive.mono (by decide +kernel)
theorem told_eq (n : Int) (b : Bool) : num_told.f n b = some (if b = true then (n, true) else (0, false)) := by
  unfold num_told.f; split <;> rfl
theorem Sub_eq {a b : Int} (h1 : -9223372036854775808 ≤ a) (h2 : a ≤ 9223372036854775807) (h3 : -9223372036854775808 ≤ b) (h4 : b ≤ 9223372036854775807) :
    num_Sub.f a b = some (fitI (a - b)) := by
  unfold num_Sub.f
  rw [told_eq]
  simp only [Option.bind_some]
  congr 1
  unfold fitI
  by_cases h : -9223372036854775808 ≤ a - b ∧ a - b ≤ 9223372036854775807
  · rw [w64 h.1 h.2, if_pos h, show decide (a - b < a) = decide (b > 0) by rw [decide_eq_decide]; omega]; simp
  · rw [if_neg h]
    have : (decide (wrap64 (a - b) < a) == decide (b > 0)) = false := by
      rw [beq_eq_false_iff_ne, Ne, decide_eq_decide]; unfold wrap64; omega
    rw [this]; rfl
theorem bnd_at {s v : Int} {l : List S70} {j : Int} (h : j ∈ bnd s v l 0) : 0 ≤ j ∧ j < l.length ∧ ∃ h : j.toNat < l.length, rd_T70 l j = l[j.toNat] ∧ sgD s (cf v (l[j.toNat]'h)) = true := by
  obtain ⟨h1, h2, h3, h4⟩ := bnd_mem s v l 0 j h
  rw [Int.sub_zero] at h3
  refine ⟨h1, by omega, h3, by simp [rd_T70, h3], ?_⟩
  have e : (j - 0).toNat = j.toNat := by rw [Int.sub_zero]
  simp only [e] at h4
  exact h4
theorem bnd_map (s v : Int) (l : List S70) : ∀ (d i : Nat), l.length - i = d → i ≤ l.length → (bnd s v (l.drop i) i).map (rd_T70 l) = (l.drop i).filter fun q => sgD s (cf v q) := by
  intro d
  induction d with
  | zero => intro i h1 h2; rw [List.drop_eq_nil_of_le (by omega)]; rfl
  | succ d ih =>
    intro i h1 h2
    have hi : i < l.length := by omega
    rw [List.drop_eq_getElem_cons hi, List.filter_cons]
    have e : ((i + 1 : Nat) : Int) = (i : Int) + 1 := by omega
    have hI := ih (i+1) (by omega) (by omega)
    rw [e] at hI
    simp only [bnd]
    by_cases c : sgD s (cf v l[i]) = true
    · rw [if_pos c, if_pos c, List.map_cons, rdI_at l i hi, hI]
    · rw [if_neg c, if_neg c, hI]
theorem bnd_filter (s v : Int) (l : List S70) : (bnd s v l 0).map (rd_T70 l) = l.filter fun q => sgD s (cf v q) := by
  have := bnd_map s v l _ 0 rfl (by omega)
  rwa [List.drop_zero] at this
theorem fitR_in {s : Int} (h : R64 s) : fitR s = (s, true) := by unfold fitR; rw [if_pos h]
theorem rd_ok {l : List S70} {s v i : Int} (h : i ∈ bnd s v l 0) : rd_T70 l i ∈ l ∧ sgD s (cf v (rd_T70 l i)) = true := by
  obtain ⟨_, _, h2, h3, h4⟩ := bnd_at h
  rw [h3]
  exact ⟨List.getElem_mem h2, h4⟩
open Go.ChangeShapes Go.WideShapes
theorem list_of {α : Type} (n : Nat) (p : Nat → α → Prop) (h : ∀ i, i < n → ∃ x, p i x) : ∃ l : List α, l.length = n ∧ ∀ i x, l[i]? = some x → p i x := by
  induction n with
  | zero => exact ⟨[], rfl, by simp⟩
  | succ n ih =>
    obtain ⟨l, hl, hp⟩ := ih (fun i hi => h i (by omega))
    obtain ⟨x, hx⟩ := h n (by omega)
    refine ⟨l ++ [x], by simp [hl], fun i y hy => ?_⟩
    rcases Nat.lt_or_ge i n with q | q
    · rw [List.getElem?_append_left (by omega)] at hy; exact hp i y hy
    · rw [List.getElem?_append_right (by omega)] at hy
      have : i - l.length = 0 := by
        rcases Nat.eq_zero_or_pos (i - l.length) with e | e
        · exact e
        · rw [List.getElem?_eq_none (by simp; omega)] at hy; cases hy
      rw [this] at hy
      obtain rfl : x = y := by simpa using hy
      rw [show i = n by omega]; exact hx
/-- An argument that is a slice, opened: a list of what its elements are. -/
theorem open_row {H : Type} {enc : TypeId × Value → H} {W : World} {held : Bool} {α : Type} (d : Kd α) (Q : α → Prop) {t e : TypeId} {spare : Nat → Bool} {fuel : Nat} {A : Option Addr} {n c : Nat} {x : DataW H × List MemPlace}
    (ht : Try.prog.underlying t = some (.slice e)) (hsz : Try.prog.cellsOf e = d.sz)
    (ho : ∀ m cs y, DataW.trod enc Try.prog W 0 spare held m e cs = some y → ∃ x, d.K W x cs ∧ Q x)
    (h : DataW.trod enc Try.prog W 0 spare held fuel t [.slice A n c] = some x) :
    ∃ l : List α, l.length = n ∧ n ≤ c ∧ c ≤ maxLen ∧ d.C W A n l ∧ ∀ x ∈ l, Q x := by
  rcases Go.Deep.open_slice ht h with ⟨hcs, _⟩ | ⟨a, len, cap, m, n', D, Pl, hcs, _, hl, hm, hmm, _, hi⟩
  · simp at hcs
    obtain ⟨rfl, rfl, rfl⟩ := hcs
    exact ⟨[], rfl, Nat.le_refl _, Nat.zero_le _, Kd.C_nil d W, by simp⟩
  · simp at hcs
    obtain ⟨rfl, rfl, rfl⟩ := hcs
    have hmn : n ≤ m := by rw [hmm]; split <;> omega
    obtain ⟨l, h1, h2⟩ := list_of n (fun i x => (∃ cs, cs.length = d.sz ∧ d.K W x cs ∧ ∀ j u, cs[j]? = some u → W.cell? (a.add (i * d.sz + j)) = some u) ∧ Q x) (fun i hin => by
      obtain ⟨cs, hc, hx⟩ := hi i (by omega)
      obtain ⟨x, hK, hQ⟩ := ho _ _ _ hx
      obtain ⟨_, hlen, hat⟩ := World.cells?_some hc
      refine ⟨x, ⟨cs, hlen.trans hsz, hK, fun j u hj => ?_⟩, hQ⟩
      have hjl : j < cs.length := by
        rcases Nat.lt_or_ge j cs.length with q | q
        · exact q
        · rw [List.getElem?_eq_none q] at hj; cases hj
      rw [← hj, ← hat j (by omega), hsz, Go.Deep.add_add])
    refine ⟨l, h1, hl, hm, ⟨h1, ?_, fun _ => ⟨a, rfl, fun j p hj => (h2 j p hj).1⟩⟩, fun x hx => ?_⟩
    · have : maxLen = 9223372036854775807 := rfl
      omega
    · obtain ⟨i, hi', he⟩ := List.getElem_of_mem hx
      exact (h2 i x (by rw [List.getElem?_eq_getElem hi', he])).2
/-- A monomial's cells. -/
theorem open_mono {H : Type} {enc : TypeId × Value → H} {W : World} {held : Bool} {spare : Nat → Bool} {m : Nat} (cs : List Value) (y : DataW H × List MemPlace) (h : DataW.trod enc Try.prog W 0 spare held m 68 cs = some y) :
    ∃ x : S68, k68.K W x cs ∧ ((-9223372036854775808 ≤ x.f0 ∧ x.f0 ≤ 9223372036854775807) ∧ -9223372036854775808 ≤ x.f1 ∧ x.f1 ≤ 9223372036854775807) := by
  obtain ⟨y0, y1, n, _, hl, h0, h1⟩ := trod_struct2 Try.underlying68 h
  have e0 : Try.prog.cellsOf 3 = 1 := by kernel_rfl
  have e1 : Try.prog.cellsOf 2 = 1 := by kernel_rfl
  have e2 : Try.prog.cellsOf 68 = 2 := by kernel_rfl
  simp only [e0, e1] at h0 h1
  rw [e2] at hl
  match cs, hl with
  | [c0, c1], _ =>
    obtain ⟨a, ha, _, hw⟩ := DataW.trod_int Try.underlying3 h0
    obtain ⟨b, hb, _, hw2⟩ := DataW.trod_int Try.underlying2 h1
    simp at ha hb
    subst ha hb
    exact ⟨⟨a, b⟩, k68_mk W ⟨a, b⟩, wf64 hw, wf64 hw2⟩
/-- A form's cells. -/
theorem open_lin {H : Type} {enc : TypeId × Value → H} {W : World} {held : Bool} {spare : Nat → Bool} {m : Nat} (cs : List Value) (y : DataW H × List MemPlace) (h : DataW.trod enc Try.prog W 0 spare held m 62 cs = some y) :
    ∃ (x : S62) (A : Option Addr) (c : Nat), cs = [.int .i64 x.f0, .slice A x.f1.length c] ∧ x.f1.length ≤ c ∧ c ≤ maxLen ∧ Kd.C k68 W A x.f1.length x.f1 ∧ R64 x.f0 ∧ M64 x.f1 := by
  obtain ⟨y0, y1, n, _, hl, h0, h1⟩ := trod_struct2 Try.underlying62 h
  have e1 : Try.prog.cellsOf 2 = 1 := by kernel_rfl
  have e0 : Try.prog.cellsOf 60 = 1 := by kernel_rfl
  have e2 : Try.prog.cellsOf 62 = 2 := by kernel_rfl
  simp only [e0, e1] at h0 h1
  rw [e2] at hl
  match cs, hl with
  | [c0, c1], _ =>
    obtain ⟨a, ha, _, hw⟩ := DataW.trod_int Try.underlying2 h0
    simp at ha
    subst ha
    have h2 : DataW.trod enc Try.prog W 0 spare held n 60 [c1] = some y1 := h1
    have hs : ∃ A n c, c1 = .slice A n c := by
      rcases Go.Deep.open_slice Try.underlying60 h2 with ⟨hcs, _⟩ | ⟨a, len, cap, m, n', D, Pl, hcs, _⟩
      · simp at hcs; exact ⟨_, _, _, hcs⟩
      · simp at hcs; exact ⟨_, _, _, hcs⟩
    obtain ⟨A, len, c, rfl⟩ := hs
    obtain ⟨l, rfl, hc, hm, hC, hQ⟩ := open_row k68 _ Try.underlying60 (by kernel_rfl) (fun _ cs y h => open_mono cs y h) h2
    exact ⟨⟨a, l⟩, A, c, rfl, hc, hm, hC, wf64 hw, hQ⟩
/-- An inequality's cells. -/
theorem open_ineq {H : Type} {enc : TypeId × Value → H} {W : World} {held : Bool} {spare : Nat → Bool} {m : Nat} (cs : List Value) (y : DataW H × List MemPlace) (h : DataW.trod enc Try.prog W 0 spare held m 70 cs = some y) :
    ∃ (x : S70) (A : Option Addr) (c : Nat), cs = [.int .i64 x.f0.f0, .slice A x.f0.f1.length c, .bool x.f1] ∧ x.f0.f1.length ≤ c ∧ c ≤ maxLen ∧ Kd.C k68 W A x.f0.f1.length x.f0.f1 ∧ R64 x.f0.f0 ∧ M64 x.f0.f1 := by
  obtain ⟨y0, y1, n, _, hl, h0, h1⟩ := trod_struct2 Try.underlying70 h
  have e1 : Try.prog.cellsOf 4 = 1 := by kernel_rfl
  have e0 : Try.prog.cellsOf 62 = 2 := by kernel_rfl
  have e2 : Try.prog.cellsOf 70 = 3 := by kernel_rfl
  simp only [e0, e1] at h0 h1
  rw [e2] at hl
  match cs, hl with
  | [c0, c1, c2], _ =>
    obtain ⟨b, hb, _⟩ := DataW.trod_bool Try.underlying4 h1
    simp at hb
    subst hb
    obtain ⟨x, A, c, hcs, hc, hm, hC, hr, hM⟩ := open_lin _ _ h0
    simp at hcs
    obtain ⟨rfl, rfl⟩ := hcs
    exact ⟨⟨x, b⟩, A, c, rfl, hc, hm, hC, hr, hM⟩
def Q30 (x : S70) : Prop := R64 x.f0.f0 ∧ M64 x.f0.f1 ∧ x.f0.f1.length ≤ maxLen
theorem open_ineqK {H : Type} {enc : TypeId × Value → H} {W : World} {held : Bool} {spare : Nat → Bool} {m : Nat} (cs : List Value) (y : DataW H × List MemPlace) (h : DataW.trod enc Try.prog W 0 spare held m 70 cs = some y) :
    ∃ x : S70, k70.K W x cs ∧ Q30 x := by
  obtain ⟨x, A, c, rfl, hc, hm, hC, hr, hM⟩ := open_ineq cs y h
  exact ⟨x, k70_mk W x hc hC, hr, hM, Nat.le_trans hc hm⟩
theorem Q30_R {l : List S70} (h : ∀ q ∈ l, Q30 q) : ∀ q ∈ l, R64 q.f0.f0 ∧ M64 q.f0.f1 := fun q hq => ⟨(h q hq).1, (h q hq).2.1⟩
theorem sg_neg {t : Int} : sgD (-1) t = true ↔ t < 0 := by unfold sgD; simp
theorem sg_pos {t : Int} : sgD 1 t = true ↔ 0 < t := by unfold sgD; simp
/-- How many splits a lower bound has. -/
def manyD (b d : Int) : Int := b - ceilD b d
theorem many_eq {b d : Int} (h1 : 0 ≤ b) (h2 : b ≤ 9223372036854775808) (h3 : 1 ≤ d) (h4 : d ≤ 9223372036854775807) : shadow_many.f b d = some (manyD b d) := by
  unfold shadow_many.f
  rw [if_neg (by omega)]
  have ht : Int.tdiv b d = b / d := Int.tdiv_eq_ediv_of_nonneg h1
  have hm : Int.tmod b d = b % d := Int.tmod_eq_emod_of_nonneg h1
  have hq0 : 0 ≤ b / d := Int.ediv_nonneg h1 (by omega)
  have hq2 := Int.mul_le_mul_of_nonneg_right h3 hq0
  have hr0 := Int.emod_nonneg b (show d ≠ 0 by omega)
  have hr1 := Int.emod_lt_of_pos b (show 0 < d by omega)
  have he := Int.mul_ediv_add_emod b d
  have hq1 : b / d ≤ b := by omega
  rw [ht, hm]
  simp only [u64w]
  generalize hQ : b / d = q at *
  generalize hRr : b % d = r at *
  have hwq : q % 18446744073709551616 = q := by omega
  by_cases c : r = 0
  · rw [if_pos c]
    have : ceilD b d = q := (ceilD_uniq (K := b) (d := d) (c := q) h3 (by rw [Int.mul_sub, Int.mul_one]; omega) (by omega)).symm
    unfold manyD
    rw [this, hwq]
    congr 1; omega
  · rw [if_neg c]
    have hlt : q + 1 ≤ b := by
      by_cases cd : d = 1
      · subst cd; omega
      · by_cases cb : b = 0
        · subst cb; simp at hRr; omega
        · have : d * q ≥ 2 * q := Int.mul_le_mul_of_nonneg_right (by omega) hq0
          by_cases cq : q = 0
          · omega
          · omega
    have : ceilD b d = q + 1 := (ceilD_uniq (K := b) (d := d) (c := q + 1) h3 (by rw [show q + 1 - 1 = q by omega]; omega) (by rw [Int.mul_add, Int.mul_one]; omega)).symm
    unfold manyD
    rw [this, hwq, show (q + 1) % 18446744073709551616 = q + 1 by omega]
    congr 1; omega
theorem manyD_le {b d : Int} (h1 : 0 ≤ b) (h3 : 1 ≤ d) : 0 ≤ manyD b d ∧ manyD b d ≤ b := by
  obtain ⟨a1, a2⟩ := ceil_law (K := b) h3
  unfold manyD
  constructor
  · have : ceilD b d ≤ b := by
      by_cases c : ceilD b d ≤ b
      · exact c
      · have h2 : 1 * (ceilD b d - 1) ≤ d * (ceilD b d - 1) := Int.mul_le_mul_of_nonneg_right h3 (by omega)
        omega
    omega
  · have : 0 ≤ ceilD b d := by
      by_cases c : 0 ≤ ceilD b d
      · exact c
      · have : d * ceilD b d ≤ 1 * ceilD b d := Int.mul_le_mul_of_nonpos_right h3 (by omega)
        omega
    omega
theorem u64_neg {t : Int} (h1 : -9223372036854775808 ≤ t) (h2 : t ≤ 0) : IntKind.u64.wrap (-(IntKind.u64.wrap t)) = -t := by simp only [u64w]; omega
theorem u64_id {t : Int} (h1 : 0 ≤ t) (h2 : t ≤ 18446744073709551615) : IntKind.u64.wrap t = t := by simp only [u64w]; omega
/-- A split of a lower bound. -/
def spS (q : S70) : List S158 := zipS [⟨q.f0.f0, q.f0.f1⟩] [-1]
theorem refDiv_neg {a d : Int} (ha : R64 a) (hn : a < -1) (hd : 2 ≤ d) (hd2 : R64 d) : sequiturref01_Div.f a d = some (-(ceilD (-a) d), true) := by
  obtain ⟨b, hb⟩ : ∃ b : Int, b = -a := ⟨_, rfl⟩
  obtain rfl : a = -b := by omega
  have h1 := ha.1
  have h2 := hd2.2
  have hb0 : 0 ≤ b := by omega
  unfold sequiturref01_Div.f
  rw [if_neg (by omega), if_neg (by omega), Int.neg_tdiv, Int.neg_tmod, Int.tdiv_eq_ediv_of_nonneg hb0, Int.tmod_eq_emod_of_nonneg hb0, show - -b = b by omega]
  have hq0 : 0 ≤ b / d := Int.ediv_nonneg hb0 (by omega)
  have hr0 := Int.emod_nonneg b (show d ≠ 0 by omega)
  have hr1 := Int.emod_lt_of_pos b (show 0 < d by omega)
  have he := Int.mul_ediv_add_emod b d
  have hq2 := Int.mul_le_mul_of_nonneg_right hd hq0
  generalize hQ : b / d = q at *
  generalize hRr : b % d = r at *
  by_cases c : r = 0
  · have hc : ceilD b d = q := (ceilD_uniq (K := b) (d := d) (c := q) (by omega) (by rw [Int.mul_sub, Int.mul_one]; omega) (by omega)).symm
    rw [if_pos (by omega), hc, w64 (by omega) (by omega)]
  · have hc : ceilD b d = q + 1 := (ceilD_uniq (K := b) (d := d) (c := q + 1) (by omega) (by rw [show q + 1 - 1 = q by omega]; omega) (by rw [Int.mul_add, Int.mul_one]; omega)).symm
    rw [if_neg (by omega), decide_eq_true (show -b < 0 by omega), decide_eq_false (show ¬ d < 0 by omega), hc, w64 (n := -q) (by omega) (by omega), w64 (by omega) (by omega)]
    simp; omega
/-- The greatest number of times. -/
def dTop (l : List S70) (v : Int) : Int := l.foldl (fun a q => mx a (cf v q)) 0
theorem mx_filter (v : Int) : ∀ (l : List S70) (a : Int), 0 ≤ a → (l.filter fun q => sgD 1 (cf v q)).foldl (fun a q => mx a (cf v q)) a = l.foldl (fun a q => mx a (cf v q)) a := by
  intro l
  induction l with
  | nil => intro a _; rfl
  | cons q l ih =>
    intro a ha
    by_cases c : 0 < cf v q
    · rw [List.filter_cons_of_pos (p := fun q => sgD 1 (cf v q)) (sg_pos.2 c), List.foldl_cons, List.foldl_cons]
      exact ih _ (by unfold mx; split <;> omega)
    · rw [List.filter_cons_of_neg (p := fun q => sgD 1 (cf v q)) (fun h => c (sg_pos.1 h)), List.foldl_cons, ih a ha]
      congr 1
      unfold mx; split <;> omega
theorem top_l0 (l : List S70) (v : Int) (hl : l.length ≤ 1000000) (hm : ∀ q ∈ l, q.f0.f1.length ≤ 1000000) : ∀ (e j : Nat) (a : Int), l.length - j = e → j ≤ l.length → Ev (fun k => sequiturref30_top.l0 k l v a j) ((l.drop j).foldl (fun a q => mx a (cf v q)) a) := by
  intro e
  induction e with
  | zero =>
    intro j a h1 h2
    rw [List.drop_eq_nil_of_le (by omega)]
    refine Ev.succ ?_
    simp only [sequiturref30_top.l0]
    exact Ev.neg (by omega) (Ev.now fun _ => rfl)
  | succ e ih =>
    intro j a h1 h2
    have hj : j < l.length := by omega
    have hI := ih (j+1) (mx a (cf v l[j])) (by omega) (by omega)
    rw [List.drop_eq_getElem_cons hj, List.foldl_cons]
    refine Ev.succ ?_
    simp only [sequiturref30_top.l0]
    rw [rdI_at l j hj, show wrap64 ((j:Int) + 1) = ((j+1 : Nat) : Int) by rw [w64 (by omega) (by omega)]; omega]
    exact Ev.pos (by omega) (Ev.pos (by omega) (Ev.bind (by27g_ev l[j].f0.f0 l[j].f0.f1 v (hm _ (List.getElem_mem hj))) hI))
theorem top_ev (l : List S70) (v : Int) (hl : l.length ≤ 1000000) (hm : ∀ q ∈ l, q.f0.f1.length ≤ 1000000) : Ev (fun k => sequiturref30_top.f k l v) (dTop l v) := by
  have := top_l0 l v hl hm _ 0 0 rfl (by omega)
  rw [List.drop_zero] at this
  exact this
/-- The inequalities that are split, how many splits each has, and the sum that the bound is asked of. -/
def lowS (l : List S70) (v : Int) : List S70 := l.filter fun q => decide (cf v q < -1)
def cntQ (v D : Int) (q : S70) : Int := manyD (-cf v q) D
def sumN (v D : Int) (L : List S70) (a : Int) : Int := L.foldl (fun a q => a + mn (cntQ v D q) 1025) a
/-- A split, and whether it fits. -/
def spR (q : S70) (i : Int) : S62 × Bool := (⟨-q.f0.f0 - i, linOf (csum (spS q)) 64⟩, fitsC (csum (spS q)) && decide (R64 (-q.f0.f0)) && decide (R64 (-q.f0.f0 - i)))
/-- The splits of an inequality; all of them; the answer. -/
def spAll (v D : Int) (q : S70) : List (S62 × Bool) := (List.range (cntQ v D q).toNat).map fun (j : Nat) => spR q j
def splitsD (l : List S70) (v : Int) : List S62 × Int :=
  if wrongB l v = true then ([], 1)
  else if dTop l v < 2 then ([], 0)
  else if sumN v (dTop l v) (lowS l v) 0 > 1024 then ([], 2)
  else if (((lowS l v).flatMap (spAll v (dTop l v))).all (·.2)) = true then (((lowS l v).flatMap (spAll v (dTop l v))).map (·.1), 0) else ([], 5)
theorem manyD_pos {b d : Int} (h1 : 2 ≤ b) (h3 : 2 ≤ d) : 1 ≤ manyD b d := by
  obtain ⟨a1, a2⟩ := ceil_law (K := b) (show 1 ≤ d by omega)
  unfold manyD
  have : ceilD b d ≤ b - 1 := by
    by_cases c : ceilD b d ≤ b - 1
    · exact c
    · have h2 : 2 * (ceilD b d - 1) ≤ d * (ceilD b d - 1) := Int.mul_le_mul_of_nonneg_right h3 (by omega)
      omega
  omega
theorem split_evG {q : S70} (hr : rightL (-1) q.f0.f1 = true) (hR : R64 q.f0.f0 ∧ M64 q.f0.f1) (hlen : q.f0.f1.length ≤ 1000000) (v i : Int) (h0 : 0 ≤ i) (h1 : i ≤ 1000000) :
    ∃ F, Ev (fun k => shadow_split.f k q.f0.f0 q.f0.f1 v i) F ∧ F.2.2 = (spR q i).2 ∧ ((spR q i).2 = true → (⟨F.1, F.2.1⟩ : S62) = (spR q i).1) := by
  have hlen9 : q.f0.f1.length ≤ 9223372036854775807 := by omega
  have hS := Scale_ev q.f0.f0 q.f0.f1 (-1) hR.1 hR.2 ⟨by omega, by omega⟩ hlen9
  have hd : sumD [⟨q.f0.f0, q.f0.f1⟩] [-1] = sumR (spS q) := sumD_right (by simp [hr]) rfl
  rw [hd] at hS
  have hk : kS (spS q) = -q.f0.f0 := by show q.f0.f0 * -1 + 0 = _; omega
  by_cases c : R64 (-q.f0.f0) ∧ fitsC (csum (spS q)) = true
  · have he : sumR (spS q) = (-q.f0.f0, linOf (csum (spS q)) 64, 0) := by unfold sumR; rw [hk, if_pos c]
    rw [he] at hS
    have hb := c.1
    have hb1 := hb.1
    have hb2 := hb.2
    have hsp : (spR q i).2 = decide (R64 (-q.f0.f0 - i)) := by unfold spR; rw [c.2, decide_eq_true c.1]; simp
    refine ⟨((fitR (-q.f0.f0 - i)).1, linOf (csum (spS q)) 64, (fitR (-q.f0.f0 - i)).2), Ev.bind hS (Ev.pos rfl ?_), ?_, ?_⟩
    · rw [Sub_eq (by omega) (by omega) (by omega) (by omega), fitI_R]
      exact Ev.bind (Ev.now fun _ => rfl) (Ev.now fun _ => rfl)
    · rw [hsp]
      unfold fitR
      by_cases d : R64 (-q.f0.f0 - i)
      · rw [if_pos d, decide_eq_true d]
      · rw [if_neg d, decide_eq_false d]
    · rw [hsp]
      intro d
      rw [fitR_in (of_decide_eq_true d)]; rfl
  · have he : sumR (spS q) = (0, [], 5) := by unfold sumR; rw [hk, if_neg c]
    rw [he] at hS
    have hsp : (spR q i).2 = false := by
      unfold spR
      by_cases c2 : fitsC (csum (spS q)) = true
      · rw [decide_eq_false (fun h => c ⟨h, c2⟩)]; simp
      · rw [show fitsC (csum (spS q)) = false by simpa using c2]; simp
    refine ⟨_, Ev.bind hS (Ev.neg (by simp) (Ev.now fun _ => rfl)), by rw [hsp], fun h => by rw [hsp] at h; cases h⟩
/-- Whether the reference's split fits. -/
def spO (q : S70) (i : Int) : Bool := fitsC (csum (spS q)) && decide (R64 (-q.f0.f0 - i))
theorem refSplit_ev {q : S70} (hr : rightL (-1) q.f0.f1 = true) (hR : R64 q.f0.f0 ∧ M64 q.f0.f1) (hlen : q.f0.f1.length ≤ 1000000) (i : Int) (h0 : 0 ≤ i) (h1 : i ≤ 1000000) :
    ∃ F, Ev (fun k => sequiturref27_Sum.f k [⟨q.f0.f0, q.f0.f1⟩, ⟨i, []⟩] [-1, -1]) F ∧ (F.2.2 == 0) = spO q i ∧ (spO q i = true → (⟨F.1, F.2.1⟩ : S62) = (spR q i).1) := by
  have hS := refSum27_ev [⟨q.f0.f0, q.f0.f1⟩, ⟨i, []⟩] [-1, -1] (by
    intro a ha
    simp at ha
    rcases ha with rfl | rfl
    · exact ⟨hR.1, hR.2, by show q.f0.f1.length ≤ _; omega⟩
    · exact ⟨⟨by show _ ≤ i; omega, by show i ≤ _; omega⟩, (by intro m hm; cases hm), by simp⟩) (by intro y hy; simp at hy; subst hy; exact ⟨by omega, by omega⟩) (by simp)
  rw [sumD_right (by simp [hr, rightL]) rfl] at hS
  have hk : kS (zipS [⟨q.f0.f0, q.f0.f1⟩, ⟨i, []⟩] [-1, -1]) = -q.f0.f0 - i := by show q.f0.f0 * -1 + (i * -1 + 0) = _; omega
  have hc : csum (zipS [⟨q.f0.f0, q.f0.f1⟩, ⟨i, []⟩] [-1, -1]) = csum (spS q) := by
    funext v
    show coef q.f0.f1 v * -1 + (coef [] v * -1 + 0) = coef q.f0.f1 v * -1 + 0
    simp [coef]
  refine ⟨_, hS, ?_, ?_⟩
  · unfold sumR spO
    rw [hk, hc]
    by_cases c : R64 (-q.f0.f0 - i)
    · by_cases c2 : fitsC (csum (spS q)) = true
      · rw [if_pos ⟨c, c2⟩, c2, decide_eq_true c]; rfl
      · rw [if_neg (fun h => c2 h.2), show fitsC (csum (spS q)) = false by simpa using c2]; rfl
    · rw [if_neg (fun h => c h.1), decide_eq_false c, Bool.and_false]; rfl
  · intro h
    unfold spO at h
    simp only [Bool.and_eq_true, decide_eq_true_eq] at h
    unfold sumR spR
    rw [hk, hc, if_pos ⟨h.2, h.1⟩]
section
variable (l : List S70) (v : Int) (hr : ∀ q ∈ l, rightL (-1) q.f0.f1 = true) (hR : ∀ q ∈ l, R64 q.f0.f0 ∧ M64 q.f0.f1) (hm : ∀ q ∈ l, q.f0.f1.length ≤ 1000000)
include hr hR hm
theorem splitsG_l3 (d : Int) (R : List S62 × Int) (i : Int) (h0 : 0 ≤ i) (hi : i < l.length) (hmem : rd_T70 l i ∈ l) (L : List Int) (n p : Int) (m : Nat) (hm100 : m ≤ 1100) (acc0 : List S62) (ha0 : acc0.length ≤ 50000)
    (hgood : (∀ j : Nat, j < m → (spR (rd_T70 l i) j).2 = true) → Ev (fun k => shadow_Splits.l2 k l v d (acc0 ++ (List.range m).map (fun (j : Nat) => (spR (rd_T70 l i) j).1)) L n (wrap64 (p + 1))) R)
    (hbad : (∃ j : Nat, j < m ∧ (spR (rd_T70 l i) j).2 = false) → R = ([], 5)) :
    ∀ (e j : Nat) (acc : List S62), m - j = e → j ≤ m → acc = acc0 ++ (List.range j).map (fun (j : Nat) => (spR (rd_T70 l i) j).1) → (∀ j' : Nat, j' < j → (spR (rd_T70 l i) j').2 = true) → Ev (fun k => shadow_Splits.l3 k l v d acc i L n p (m : Int) j) R := by
  intro e
  induction e with
  | zero =>
    intro j acc h1 h2 hacc hall
    obtain rfl : j = m := by omega
    refine Ev.succ ?_
    simp only [shadow_Splits.l3]
    rw [hacc]
    exact Ev.neg (by omega) (hgood hall)
  | succ e ih =>
    intro j acc h1 h2 hacc hall
    have hal : acc.length ≤ 100000 := by rw [hacc]; simp; omega
    obtain ⟨F, hF, f1, f2⟩ := split_evG (hr _ hmem) (hR _ hmem) (hm _ hmem) v j (by omega) (by omega)
    refine Ev.succ ?_
    simp only [shadow_Splits.l3]
    rw [show wrap64 (j : Int) = (j : Int) by rw [w64 (by omega) (by omega)], show IntKind.u64.wrap ((j : Int) + 1) = ((j + 1 : Nat) : Int) by simp only [u64w]; omega]
    refine Ev.pos (by omega) (Ev.pos h0 (Ev.pos hi (Ev.bind hF ?_)))
    by_cases c : (spR (rd_T70 l i) j).2 = true
    · rw [f2 c]
      refine Ev.pos (by rw [f1, c]) (Ev.pos (by omega) ?_)
      refine ih (j+1) _ (by omega) (by omega) ?_ (fun j' hj' => ?_)
      · rw [hacc, List.range_succ, List.map_append, List.append_assoc]; rfl
      · by_cases e : j' = j
        · subst e; exact c
        · exact hall j' (by omega)
    · rw [hbad ⟨j, by omega, by simpa using c⟩]
      exact Ev.neg (by rw [f1]; exact c) (Ev.now fun _ => rfl)
/-- What the program comes to from some inequalities on. -/
def goD (v d : Int) (acc : List S62) (qs : List S70) : List S62 × Int := if ((qs.filter fun q => decide (cf v q < -1)).flatMap (spAll v d)).all (·.2) = true then (acc ++ ((qs.filter fun q => decide (cf v q < -1)).flatMap (spAll v d)).map (·.1), 0) else ([], 5)
omit hr hR hm in
theorem goD_skip {v d : Int} {acc : List S62} {q : S70} {qs : List S70} (h : ¬ cf v q < -1) : goD v d acc (q :: qs) = goD v d acc qs := by
  unfold goD
  rw [List.filter_cons_of_neg (p := fun q => decide (cf v q < -1)) (by simpa using h)]
omit hr hR hm in
theorem goD_good {v d : Int} {acc : List S62} {q : S70} {qs : List S70} (h : cf v q < -1) (hg : (spAll v d q).all (·.2) = true) : goD v d acc (q :: qs) = goD v d (acc ++ (spAll v d q).map (·.1)) qs := by
  unfold goD
  rw [List.filter_cons_of_pos (p := fun q => decide (cf v q < -1)) (by simpa using h), List.flatMap_cons, List.all_append, hg, Bool.true_and, List.map_append, List.append_assoc]
omit hr hR hm in
theorem goD_bad {v d : Int} {acc : List S62} {q : S70} {qs : List S70} (h : cf v q < -1) (hg : (spAll v d q).all (·.2) = false) : goD v d acc (q :: qs) = ([], 5) := by
  unfold goD
  rw [List.filter_cons_of_pos (p := fun q => decide (cf v q < -1)) (by simpa using h), List.flatMap_cons, List.all_append, hg, Bool.false_and, if_neg (by simp)]
theorem splitsG_l2 (d : Int) (hd1 : 2 ≤ d) (hd2 : d ≤ 9223372036854775807) (L : List Int) (hL : L.length ≤ 20) (hmem : ∀ i ∈ L, 0 ≤ i ∧ i < l.length ∧ rd_T70 l i ∈ l ∧ cf v (rd_T70 l i) < 0 ∧ -9223372036854775808 ≤ cf v (rd_T70 l i)) (hcnt : ∀ i ∈ L, cf v (rd_T70 l i) < -1 → cntQ v d (rd_T70 l i) ≤ 1024) : ∀ (e j : Nat) (acc : List S62), L.length - j = e → j ≤ L.length → acc.length ≤ j * 1100 →
    Ev (fun k => shadow_Splits.l2 k l v d acc L (L.length : Int) j) (goD v d acc ((L.drop j).map (rd_T70 l))) := by
  intro e
  induction e with
  | zero =>
    intro j acc h1 h2 h3
    rw [List.drop_eq_nil_of_le (by omega)]
    refine Ev.succ ?_
    simp only [shadow_Splits.l2]
    exact Ev.neg (by omega) (Ev.now fun _ => by simp [goD])
  | succ e ih =>
    intro j acc h1 h2 h3
    have hj : j < L.length := by omega
    obtain ⟨i0, i1, i2, i3, i4⟩ := hmem _ (List.getElem_mem hj)
    have hct := hcnt _ (List.getElem_mem hj)
    have hlen9 : (rd_T70 l L[j]).f0.f1.length ≤ 9223372036854775807 := by have := hm _ i2; omega
    have hB : Ev (fun k => lin_By.f k (rd_T70 l L[j]).f0.f0 (rd_T70 l L[j]).f0.f1 v) (cf v (rd_T70 l L[j])) := linBy_ev (rd_T70 l L[j]).f0.f0 (rd_T70 l L[j]).f0.f1 v hlen9
    rw [List.drop_eq_getElem_cons hj, List.map_cons]
    refine Ev.succ ?_
    simp only [shadow_Splits.l2]
    rw [show rd L (j : Int) = L[j] from rd_at _ j hj]
    refine Ev.pos (by omega) (Ev.pos (by omega) (Ev.pos (by omega) (Ev.pos i0 (Ev.pos i1 (Ev.bind hB ?_)))))
    rw [u64_neg i4 (by omega), u64_id (by omega) (by omega)]
    by_cases c : -cf v (rd_T70 l L[j]) < 2
    · rw [goD_skip (by omega)]
      refine Ev.pos c ?_
      rw [show wrap64 ((j:Int) + 1) = ((j+1 : Nat) : Int) by rw [w64 (by omega) (by omega)]; omega]
      exact ih (j+1) acc (by omega) (by omega) (Nat.le_trans h3 (Nat.mul_le_mul_right _ (Nat.le_succ j)))
    · have hmd := manyD_le (b := -cf v (rd_T70 l L[j])) (d := d) (by omega) (by omega)
      have hct := hct (by omega)
      unfold cntQ at hct
      refine Ev.neg c ?_
      rw [many_eq (by omega) (by omega) (by omega) (by omega)]
      refine Ev.bind (Ev.now fun _ => rfl) ?_
      obtain ⟨m, hmm⟩ : ∃ m : Nat, m = (manyD (-cf v (rd_T70 l L[j])) d).toNat := ⟨_, rfl⟩
      have hmi : manyD (-cf v (rd_T70 l L[j])) d = (m : Int) := by omega
      have hsp : spAll v d (rd_T70 l L[j]) = (List.range m).map fun (j' : Nat) => spR (rd_T70 l L[j]) j' := by unfold spAll cntQ; rw [hmi]; rfl
      rw [hmi]
      refine splitsG_l3 l v hr hR hm d _ L[j] i0 i1 i2 L (L.length : Int) j m (by omega) acc (by omega) (fun hg => ?_) (fun hb => ?_) _ 0 acc rfl (by omega) (by simp) (fun j' hj' => absurd hj' (by omega))
      · rw [goD_good (by omega) (by rw [hsp]; simpa using hg), hsp, List.map_map, show wrap64 ((j:Int) + 1) = ((j+1 : Nat) : Int) by rw [w64 (by omega) (by omega)]; omega]
        exact ih (j+1) _ (by omega) (by omega) (by simp; omega)
      · obtain ⟨j', hj', hf⟩ := hb
        refine goD_bad (by omega) ?_
        rw [hsp, List.all_eq_false]
        exact ⟨_, List.mem_map.2 ⟨j', List.mem_range.2 hj', rfl⟩, by rw [hf]; simp⟩
omit hr hR hm in
theorem sumN_le (v d : Int) (hd : 2 ≤ d) : ∀ (L : List S70) (a : Int), (∀ q ∈ L, cf v q < -1) → a ≤ sumN v d L a ∧ ∀ q ∈ L, a + mn (cntQ v d q) 1025 ≤ sumN v d L a := by
  intro L
  induction L with
  | nil => intro a _; exact ⟨Int.le_refl _, fun q hq => by cases hq⟩
  | cons q L ih =>
    intro a h
    have hq := h q (List.mem_cons_self ..)
    have hp := manyD_pos (b := -cf v q) (d := d) (by omega) hd
    have hmn : 1 ≤ mn (cntQ v d q) 1025 := by unfold mn cntQ; split <;> omega
    have hI := ih (a + mn (cntQ v d q) 1025) (fun q hq => h q (List.mem_cons_of_mem _ hq))
    have he : sumN v d (q :: L) a = sumN v d L (a + mn (cntQ v d q) 1025) := rfl
    rw [he]
    refine ⟨by omega, fun q' hq' => ?_⟩
    rcases List.mem_cons.1 hq' with rfl | hq'
    · exact hI.1
    · have := hI.2 q' hq'; omega
/-- The program's answer behind the count. -/
def finD (l : List S70) (v d : Int) : List S62 × Int := if sumN v d (lowS l v) 0 > 1024 then ([], 2) else goD v d [] ((bnd (-1) v l 0).map (rd_T70 l))
omit hr hR hm in
theorem bnd_low (l : List S70) (v : Int) : ((bnd (-1) v l 0).map (rd_T70 l)).filter (fun q => decide (cf v q < -1)) = lowS l v := by
  rw [bnd_filter, List.filter_filter]
  unfold lowS
  refine List.filter_congr fun q _ => ?_
  by_cases c : cf v q < -1
  · rw [decide_eq_true c, sg_neg.2 (by omega)]; rfl
  · rw [decide_eq_false c]; rfl
theorem splitsG_l1 (hl : l.length ≤ 20) (d : Int) (hd1 : 2 ≤ d) (hd2 : d ≤ 9223372036854775807) (hcR : ∀ q ∈ l, -9223372036854775808 ≤ cf v q) : ∀ (e j : Nat) (n : Int), (bnd (-1) v l 0).length - j = e → j ≤ (bnd (-1) v l 0).length → 0 ≤ n → n ≤ j * 1025 →
    sumN v d ((((bnd (-1) v l 0).drop j).map (rd_T70 l)).filter fun q => decide (cf v q < -1)) n = sumN v d (lowS l v) 0 →
    Ev (fun k => shadow_Splits.l1 k l v d n (bnd (-1) v l 0) ((bnd (-1) v l 0).length : Int) j l v) (finD l v d) := by
  have hbl := bnd_len (-1) v l 0
  have hm9 : ∀ q ∈ l, q.f0.f1.length ≤ 9223372036854775807 := fun q hq => by have := hm q hq; omega
  have hmem : ∀ i ∈ bnd (-1) v l 0, 0 ≤ i ∧ i < l.length ∧ rd_T70 l i ∈ l ∧ cf v (rd_T70 l i) < 0 ∧ -9223372036854775808 ≤ cf v (rd_T70 l i) := fun i hi => ⟨(bnd_at hi).1, (bnd_at hi).2.1, (rd_ok hi).1, sg_neg.1 (rd_ok hi).2, hcR _ (rd_ok hi).1⟩
  intro e
  induction e with
  | zero =>
    intro j n h1 h2 h3 h4 h5
    rw [List.drop_eq_nil_of_le (by omega)] at h5
    have h6 : n = sumN v d (lowS l v) 0 := h5
    by_cases c : n > 1024
    · refine Ev.succ ?_
      simp only [shadow_Splits.l1]
      unfold finD
      rw [if_pos (by omega)]
      exact Ev.neg (by omega) (Ev.pos c (Ev.now fun _ => rfl))
    · have hcnt : ∀ i ∈ bnd (-1) v l 0, cf v (rd_T70 l i) < -1 → cntQ v d (rd_T70 l i) ≤ 1024 := by
        intro i hi hc
        have := (sumN_le v d hd1 (lowS l v) 0 (fun q hq => by simpa using (List.mem_filter.1 hq).2)).2 _ (List.mem_filter.2 ⟨(rd_ok hi).1, by simpa using hc⟩)
        unfold mn at this
        split at this <;> omega
      have := splitsG_l2 l v hr hR hm d hd1 hd2 (bnd (-1) v l 0) (by omega) hmem hcnt _ 0 [] rfl (by omega) (by simp)
      rw [List.drop_zero] at this
      refine Ev.succ ?_
      simp only [shadow_Splits.l1]
      unfold finD
      rw [if_neg (by omega)]
      exact Ev.neg (by omega) (Ev.neg c (Ev.bind (bounds_ev (-1) l v (by omega) hm9) this))
  | succ e ih =>
    intro j n h1 h2 h3 h4 h5
    have hj : j < (bnd (-1) v l 0).length := by omega
    obtain ⟨i0, i1, i2, i3, i4⟩ := hmem _ (List.getElem_mem hj)
    have hlen9 : (rd_T70 l (bnd (-1) v l 0)[j]).f0.f1.length ≤ 9223372036854775807 := by have := hm _ i2; omega
    have hB : Ev (fun k => lin_By.f k (rd_T70 l (bnd (-1) v l 0)[j]).f0.f0 (rd_T70 l (bnd (-1) v l 0)[j]).f0.f1 v) (cf v (rd_T70 l (bnd (-1) v l 0)[j])) := linBy_ev (rd_T70 l (bnd (-1) v l 0)[j]).f0.f0 (rd_T70 l (bnd (-1) v l 0)[j]).f0.f1 v hlen9
    rw [List.drop_eq_getElem_cons hj, List.map_cons] at h5
    refine Ev.succ ?_
    simp only [shadow_Splits.l1]
    rw [show rd (bnd (-1) v l 0) (j : Int) = (bnd (-1) v l 0)[j] from rd_at _ j hj]
    refine Ev.pos (by omega) (Ev.pos (by omega) (Ev.pos (by omega) (Ev.pos i0 (Ev.pos i1 (Ev.bind hB ?_)))))
    rw [u64_neg i4 (by omega)]
    by_cases c : -cf v (rd_T70 l (bnd (-1) v l 0)[j]) ≥ 2
    · rw [List.filter_cons_of_pos (p := fun q => decide (cf v q < -1)) (decide_eq_true (by omega))] at h5
      have hmd := manyD_le (b := -cf v (rd_T70 l (bnd (-1) v l 0)[j])) (d := d) (by omega) (by omega)
      have hmn : 0 ≤ mn (manyD (-cf v (rd_T70 l (bnd (-1) v l 0)[j])) d) 1025 ∧ mn (manyD (-cf v (rd_T70 l (bnd (-1) v l 0)[j])) d) 1025 ≤ 1025 := by unfold mn; split <;> omega
      rw [u64_id (t := d) (by omega) (by omega), many_eq (by omega) (by omega) (by omega) (by omega)]
      refine Ev.pos c (Ev.bind (Ev.now fun _ => rfl) ?_)
      rw [u64_id (by omega) (by omega), show wrap64 ((j:Int) + 1) = ((j+1 : Nat) : Int) by rw [w64 (by omega) (by omega)]; omega]
      exact ih (j+1) _ (by omega) (by omega) (by omega) (by omega) h5
    · rw [List.filter_cons_of_neg (p := fun q => decide (cf v q < -1)) (by simp; omega)] at h5
      refine Ev.neg c ?_
      rw [show wrap64 ((j:Int) + 1) = ((j+1 : Nat) : Int) by rw [w64 (by omega) (by omega)]; omega]
      exact ih (j+1) n (by omega) (by omega) (by omega) (by omega) h5
/-- The program's answer behind the greatest number of times. -/
def topD (l : List S70) (v D : Int) : List S62 × Int := if D < 2 then ([], 0) else finD l v D
theorem splitsG_l0 (hl : l.length ≤ 20) (hcR : ∀ q ∈ l, -9223372036854775808 ≤ cf v q ∧ cf v q ≤ 9223372036854775807) : ∀ (e j : Nat) (a : Int), (bnd 1 v l 0).length - j = e → j ≤ (bnd 1 v l 0).length → 0 ≤ a → a ≤ 9223372036854775807 →
    Ev (fun k => shadow_Splits.l0 k l v a (bnd 1 v l 0) ((bnd 1 v l 0).length : Int) j l v) (topD l v ((((bnd 1 v l 0).drop j).map (rd_T70 l)).foldl (fun a q => mx a (cf v q)) a)) := by
  have hbl := bnd_len 1 v l 0
  have hm9 : ∀ q ∈ l, q.f0.f1.length ≤ 9223372036854775807 := fun q hq => by have := hm q hq; omega
  intro e
  induction e with
  | zero =>
    intro j a h1 h2 h3 h4
    rw [List.drop_eq_nil_of_le (by omega)]
    show Ev _ (topD l v a)
    unfold topD
    refine Ev.succ ?_
    simp only [shadow_Splits.l0]
    by_cases c : a < 2
    · rw [if_pos c]
      exact Ev.neg (by omega) (Ev.pos c (Ev.now fun _ => rfl))
    · rw [if_neg c]
      refine Ev.neg (by omega) (Ev.neg c (Ev.bind (bounds_ev (-1) l v (by omega) hm9) ?_))
      exact splitsG_l1 l v hr hR hm hl a (by omega) h4 (fun q hq => (hcR q hq).1) _ 0 0 rfl (by omega) (by omega) (by omega) (by rw [List.drop_zero, bnd_low])
  | succ e ih =>
    intro j a h1 h2 h3 h4
    have hj : j < (bnd 1 v l 0).length := by omega
    have hme := bnd_at (List.getElem_mem hj)
    have i2 := (rd_ok (List.getElem_mem hj)).1
    have hc := hcR _ i2
    have hlen9 : (rd_T70 l (bnd 1 v l 0)[j]).f0.f1.length ≤ 9223372036854775807 := by have := hm _ i2; omega
    have hB : Ev (fun k => lin_By.f k (rd_T70 l (bnd 1 v l 0)[j]).f0.f0 (rd_T70 l (bnd 1 v l 0)[j]).f0.f1 v) (cf v (rd_T70 l (bnd 1 v l 0)[j])) := linBy_ev (rd_T70 l (bnd 1 v l 0)[j]).f0.f0 (rd_T70 l (bnd 1 v l 0)[j]).f0.f1 v hlen9
    have hmx : 0 ≤ mx a (cf v (rd_T70 l (bnd 1 v l 0)[j])) ∧ mx a (cf v (rd_T70 l (bnd 1 v l 0)[j])) ≤ 9223372036854775807 := by unfold mx; split <;> omega
    rw [List.drop_eq_getElem_cons hj, List.map_cons, List.foldl_cons]
    refine Ev.succ ?_
    simp only [shadow_Splits.l0]
    rw [show rd (bnd 1 v l 0) (j : Int) = (bnd 1 v l 0)[j] from rd_at _ j hj, show wrap64 ((j:Int) + 1) = ((j+1 : Nat) : Int) by rw [w64 (by omega) (by omega)]; omega]
    exact Ev.pos (by omega) (Ev.pos (by omega) (Ev.pos (by omega) (Ev.pos hme.1 (Ev.pos hme.2.1 (Ev.bind hB (ih (j+1) _ (by omega) (by omega) hmx.1 hmx.2))))))
end
theorem topD_splits {l : List S70} {v : Int} (hw : wrongB l v = false) : topD l v (((bnd 1 v l 0).map (rd_T70 l)).foldl (fun a q => mx a (cf v q)) 0) = splitsD l v := by
  rw [bnd_filter, mx_filter v l 0 (by omega)]
  unfold splitsD topD finD goD
  rw [hw, bnd_low, if_neg (show ¬ (false = true) by decide), List.nil_append]
  rfl
theorem cf_R64 {q : S70} (h : M64 q.f0.f1) (v : Int) : -9223372036854775808 ≤ cf v q ∧ cf v q ≤ 9223372036854775807 := by
  have key : ∀ l : List S68, M64 l → -9223372036854775808 ≤ coefI l v ∧ coefI l v ≤ 9223372036854775807 := by
    intro l
    induction l with
    | nil => intro _; exact ⟨by simp [coefI], by simp [coefI]⟩
    | cons m l ih =>
      intro h
      simp only [coefI]
      split
      · exact (h m (List.mem_cons_self ..)).2
      · exact ih (fun a ha => h a (List.mem_cons_of_mem _ ha))
  exact key _ h
theorem splitsG_ev (l : List S70) (v : Int) (hl : l.length ≤ 20) (hR : ∀ q ∈ l, R64 q.f0.f0 ∧ M64 q.f0.f1) (hm : ∀ q ∈ l, q.f0.f1.length ≤ 1000000) : Ev (fun k => shadow_Splits.f k l v) (splitsD l v) := by
  have hm9 : ∀ q ∈ l, q.f0.f1.length ≤ 9223372036854775807 := fun q hq => by have := hm q hq; omega
  refine Ev.bind (wrong_ev l v (by omega) hm9) ?_
  by_cases c : wrongB l v = true
  · unfold splitsD
    rw [if_pos c]
    exact Ev.pos c (Ev.now fun _ => rfl)
  · have hw : wrongB l v = false := by simpa using c
    refine Ev.neg c (Ev.bind (bounds_ev 1 l v (by omega) hm9) ?_)
    have := splitsG_l0 l v (fun q hq => ((wrongB_not hw).2.2 q hq).2) hR hm hl (fun q hq => cf_R64 (hR q hq).2 v) _ 0 0 rfl (by omega) (by omega) (by omega)
    rw [List.drop_zero, topD_splits hw] at this
    exact this
theorem all_range_succ {p : Nat → Bool} {n : Nat} : (List.range (n + 1)).all p = ((List.range n).all p && p n) := by
  rw [List.range_succ, List.all_append]; simp
theorem spO_all {q : S70} {n : Nat} (hn : 1 ≤ n) : ((List.range n).all fun j => spO q (j : Int)) = ((List.range n).map fun (j : Nat) => spR q j).all (·.2) := by
  rw [List.all_map]
  by_cases c : R64 (-q.f0.f0)
  · congr 1
    funext j
    show spO q j = (spR q j).2
    unfold spO spR
    rw [decide_eq_true c, Bool.and_true]
  · have h1 : ((List.range n).all fun j => spO q (j : Int)) = false := by
      rw [List.all_eq_false]
      refine ⟨0, List.mem_range.2 hn, ?_⟩
      unfold spO
      rw [show -q.f0.f0 - ((0 : Nat) : Int) = -q.f0.f0 by omega, decide_eq_false c, Bool.and_false]; simp
    rw [h1]
    symm
    rw [List.all_eq_false]
    refine ⟨0, List.mem_range.2 hn, ?_⟩
    show ¬ (spR q ((0 : Nat) : Int)).2 = true
    unfold spR
    rw [decide_eq_false c]; simp
/-- What the reference comes to, of the inequalities that are split. -/
def ansD (v d : Int) (P : List S70) : List S62 × Int := if sumN v d P 0 > 1024 then ([], 2) else if (P.flatMap (spAll v d)).all (·.2) = true then ((P.flatMap (spAll v d)).map (·.1), 0) else ([], 5)
def InvS (v d : Int) (P : List S70) (out : List S62) (good : Bool) : Prop := (out.length : Int) = sumN v d P 0 ∧ good = (P.flatMap (spAll v d)).all (·.2) ∧ (good = true → out = (P.flatMap (spAll v d)).map (·.1))
theorem sumN_app (v d : Int) (P Q : List S70) (a : Int) : sumN v d (P ++ Q) a = sumN v d Q (sumN v d P a) := by unfold sumN; rw [List.foldl_append]
section
variable (l : List S70) (v : Int) (hl : l.length ≤ 20) (hr : ∀ q ∈ l, rightL (-1) q.f0.f1 = true) (hR : ∀ q ∈ l, R64 q.f0.f0 ∧ M64 q.f0.f1) (hm : ∀ q ∈ l, q.f0.f1.length ≤ 1000000)
include hl hr hR hm
theorem refG_l1 (d : Int) (R : List S62 × Int) (i : Nat) (hi : i < l.length) (m : Nat) (hm100 : m ≤ 1100) (out0 : List S62) (good0 : Bool) (ha0 : out0.length ≤ 50000)
    (hend : ∀ (out : List S62) (good : Bool), out.length = out0.length + m → good = (good0 && (List.range m).all fun j => spO l[i] (j : Int)) → (good = true → out = out0 ++ (List.range m).map fun (j : Nat) => (spR l[i] j).1) → Ev (fun k => sequiturref30_Splits.l0 k l v d out good ((i + 1 : Nat) : Int)) R) :
    ∀ (e j : Nat) (out : List S62) (good : Bool), m - j = e → j ≤ m → out.length = out0.length + j → good = (good0 && (List.range j).all fun j => spO l[i] (j : Int)) → (good = true → out = out0 ++ (List.range j).map fun (j : Nat) => (spR l[i] j).1) →
    Ev (fun k => sequiturref30_Splits.l1 k l v d out good (i : Int) ((m : Int) - 1) j) R := by
  have hmi := hm _ (List.getElem_mem hi)
  have hRi := hR _ (List.getElem_mem hi)
  have hri := hr _ (List.getElem_mem hi)
  intro e
  induction e with
  | zero =>
    intro j out good h1 h2 h3 h4 h5
    obtain rfl : j = m := by omega
    refine Ev.succ ?_
    simp only [sequiturref30_Splits.l1]
    rw [show wrap64 ((i:Int) + 1) = ((i+1 : Nat) : Int) by rw [w64 (by omega) (by omega)]; omega]
    exact Ev.neg (by omega) (hend out good h3 h4 h5)
  | succ e ih =>
    intro j out good h1 h2 h3 h4 h5
    obtain ⟨F, hF, f1, f2⟩ := refSplit_ev hri hRi hmi j (by omega) (by omega)
    refine Ev.succ ?_
    simp only [sequiturref30_Splits.l1]
    rw [rdI_at l i hi, show wrap64 ((j:Int) + 1) = ((j+1 : Nat) : Int) by rw [w64 (by omega) (by omega)]; omega]
    refine Ev.pos (by omega) (Ev.pos (by omega) (Ev.pos (by omega) (Ev.bind hF ?_)))
    have hg : (good && spO l[i] (j : Int)) = (good0 && (List.range (j + 1)).all fun j => spO l[i] (j : Int)) := by rw [all_range_succ, h4, Bool.and_assoc]
    have hout : (good && spO l[i] (j : Int)) = true → out ++ [(⟨F.1, F.2.1⟩ : S62)] = out0 ++ (List.range (j + 1)).map fun (j : Nat) => (spR l[i] j).1 := by
      intro h
      rw [Bool.and_eq_true] at h
      rw [h5 h.1, f2 h.2, List.range_succ, List.map_append, List.append_assoc]; rfl
    cases good
    · refine Ev.neg (by simp) (Ev.pos (by omega) ?_)
      exact ih (j+1) _ _ (by omega) (by omega) (by simp; omega) hg (fun h => by cases h)
    · refine Ev.pos rfl (Ev.pos (by omega) ?_)
      rw [f1]
      rw [Bool.true_and] at hg hout
      exact ih (j+1) _ _ (by omega) (by omega) (by simp; omega) hg hout
theorem refG_l0 (d : Int) (hd1 : 2 ≤ d) (hd2 : d ≤ 9223372036854775807) : ∀ (e i : Nat) (P : List S70) (out : List S62) (good : Bool), l.length - i = e → i ≤ l.length → (∀ q ∈ P, cf v q < -1) → InvS v d P out good → out.length ≤ i * 1100 →
    Ev (fun k => sequiturref30_Splits.l0 k l v d out good i) (ansD v d (P ++ lowS (l.drop i) v)) := by
  intro e
  induction e with
  | zero =>
    intro i P out good h1 h2 hP hI hlo
    obtain ⟨a1, a2, a3⟩ := hI
    rw [List.drop_eq_nil_of_le (by omega), show lowS [] v = [] from rfl, List.append_nil]
    refine Ev.succ ?_
    simp only [sequiturref30_Splits.l0]
    unfold ansD
    refine Ev.neg (by omega) ?_
    by_cases c : sumN v d P 0 > 1024
    · rw [if_pos c]
      exact Ev.pos (by omega) (Ev.now fun _ => rfl)
    · rw [if_neg c, ← a2]
      refine Ev.neg (by omega) ?_
      cases good
      · exact Ev.neg (by simp) (Ev.now fun _ => rfl)
      · rw [a3 rfl]
        exact Ev.pos rfl (Ev.now fun _ => rfl)
  | succ e ih =>
    intro i P out good h1 h2 hP hI hlo
    have hi : i < l.length := by omega
    have hB := by27g_ev l[i].f0.f0 l[i].f0.f1 v (hm _ (List.getElem_mem hi))
    have hB : Ev (fun k => sequiturref27_By.f k l[i].f0.f0 l[i].f0.f1 v) (cf v l[i]) := hB
    have hcR := cf_R64 (hR _ (List.getElem_mem hi)).2 v
    refine Ev.succ ?_
    simp only [sequiturref30_Splits.l0]
    rw [rdI_at l i hi]
    refine Ev.pos (by omega) (Ev.pos (by omega) (Ev.bind hB ?_))
    rw [List.drop_eq_getElem_cons hi]
    by_cases c : cf v l[i] ≥ -1
    · refine Ev.pos c (Ev.succ ?_)
      simp only [sequiturref30_Splits.j1]
      rw [show wrap64 ((i:Int) + 1) = ((i+1 : Nat) : Int) by rw [w64 (by omega) (by omega)]; omega]
      refine Ev.pos trivial ?_
      have : lowS (l[i] :: l.drop (i + 1)) v = lowS (l.drop (i + 1)) v := List.filter_cons_of_neg (p := fun q => decide (cf v q < -1)) (by simp; omega)
      rw [this]
      exact ih (i+1) P out good (by omega) (by omega) hP hI (Nat.le_trans hlo (Nat.mul_le_mul_right _ (Nat.le_succ i)))
    · have hcl : cf v l[i] < -1 := by omega
      have hlow : lowS (l[i] :: l.drop (i + 1)) v = l[i] :: lowS (l.drop (i + 1)) v := List.filter_cons_of_pos (p := fun q => decide (cf v q < -1)) (by simpa using hcl)
      rw [hlow]
      have hPa : ∀ q ∈ P ++ l[i] :: lowS (l.drop (i + 1)) v, cf v q < -1 := by
        intro q hq
        rcases List.mem_append.1 hq with hq | hq
        · exact hP q hq
        · rcases List.mem_cons.1 hq with rfl | hq
          · exact hcl
          · simpa using (List.mem_filter.1 hq).2
      have hsum := sumN_le v d hd1 _ 0 hPa
      have hbig : sumN v d (P ++ l[i] :: lowS (l.drop (i + 1)) v) 0 > 1024 → ansD v d (P ++ l[i] :: lowS (l.drop (i + 1)) v) = ([], 2) := fun h => by unfold ansD; rw [if_pos h]
      have hj2 : ∀ x : Int, Ev (fun k => sequiturref30_Splits.j2 k l v d out good i x true) ([], 2) := fun x => by
        refine Ev.succ ?_
        simp only [sequiturref30_Splits.j2]
        exact Ev.pos trivial (Ev.now fun _ => rfl)
      have hmq := hsum.2 l[i] (List.mem_append.2 (.inr (List.mem_cons_self ..)))
      have hsP : sumN v d P 0 ≤ sumN v d (P ++ l[i] :: lowS (l.drop (i + 1)) v) 0 := by
        rw [sumN_app]
        exact (sumN_le v d hd1 _ _ (fun q hq => hPa q (List.mem_append.2 (.inr hq)))).1
      have hmp := manyD_pos (b := -cf v l[i]) (d := d) (by omega) hd1
      have hml := manyD_le (b := -cf v l[i]) (d := d) (by omega) (by omega)
      refine Ev.neg c (Ev.succ ?_)
      simp only [sequiturref30_Splits.j1]
      rw [decide_eq_false (show ¬ d < 2 by omega), refDiv_neg hcR hcl hd1 ⟨by omega, hd2⟩]
      refine Ev.neg (by simp) (Ev.bind (Ev.now fun _ => rfl) ?_)
      by_cases cm : cf v l[i] = -9223372036854775808
      · refine Ev.pos cm ?_
        rw [hbig ?_]
        · exact hj2 _
        · have : 1025 ≤ cntQ v d l[i] := by
            unfold cntQ manyD
            obtain ⟨b1, b2⟩ := ceil_law (K := -cf v l[i]) (show 1 ≤ d by omega)
            rw [cm] at b1 ⊢
            have : ceilD (- -9223372036854775808) d ≤ 4611686018427387905 := by
              by_cases cc : ceilD (- -9223372036854775808) d ≤ 4611686018427387905
              · exact cc
              · have h2 : 2 * (ceilD (- -9223372036854775808) d - 1) ≤ d * (ceilD (- -9223372036854775808) d - 1) := Int.mul_le_mul_of_nonneg_right hd1 (by omega)
                omega
            omega
          unfold mn at hmq
          split at hmq <;> omega
      · refine Ev.neg cm ?_
        have hlast : wrap64 (wrap64 (wrap64 (-cf v l[i]) - 1) + -ceilD (-cf v l[i]) d) = cntQ v d l[i] - 1 := by
          unfold manyD at hmp hml
          unfold cntQ manyD
          rw [w64 (n := -cf v l[i]) (by omega) (by omega), w64 (n := -cf v l[i] - 1) (by omega) (by omega), w64 (by omega) (by omega)]
          omega
        rw [hlast]
        by_cases cb : cntQ v d l[i] - 1 > 1024
        · refine Ev.pos cb ?_
          rw [hbig (by unfold mn at hmq; split at hmq <;> omega)]
          exact hj2 _
        · refine Ev.neg cb ?_
          obtain ⟨a1, a2, a3⟩ := hI
          by_cases co : (out.length : Int) > 1024
          · rw [decide_eq_true co, hbig (by omega)]
            exact hj2 _
          · rw [decide_eq_false co]
            refine Ev.succ ?_
            simp only [sequiturref30_Splits.j2]
            refine Ev.neg (by simp) ?_
            obtain ⟨m, hmm⟩ : ∃ m : Nat, m = (cntQ v d l[i]).toNat := ⟨_, rfl⟩
            have hc1 : 1 ≤ cntQ v d l[i] := hmp
            have hmi : cntQ v d l[i] = (m : Int) := by omega
            have hsp : spAll v d l[i] = (List.range m).map fun (j' : Nat) => spR l[i] j' := by unfold spAll; rw [hmi]; rfl
            rw [hmi]
            refine refG_l1 l v hl hr hR hm d _ i hi m (by omega) out good (by omega) (fun out' good' b1 b2 b3 => ?_) _ 0 out good rfl (by omega) (by simp) (by simp) (by simp)
            rw [show P ++ l[i] :: lowS (l.drop (i + 1)) v = (P ++ [l[i]]) ++ lowS (l.drop (i + 1)) v by simp]
            refine ih (i+1) (P ++ [l[i]]) out' good' (by omega) (by omega) (fun q hq => ?_) ⟨?_, ?_, ?_⟩ (by omega)
            · rcases List.mem_append.1 hq with hq | hq
              · exact hP q hq
              · simp at hq; rw [hq]; exact hcl
            · rw [sumN_app, ← a1]
              show _ = (out.length : Int) + mn (cntQ v d l[i]) 1025
              unfold mn
              split <;> omega
            · rw [b2, spO_all (by omega), a2, List.flatMap_append, List.all_append, ← hsp]; simp
            · intro h
              have hb := b3 h
              rw [b2] at h
              simp only [Bool.and_eq_true] at h
              rw [hb, a3 h.1, List.flatMap_append, List.map_append]
              congr 1
              simp [hsp]
end
theorem refG_skip (l : List S70) (v : Int) (hl : l.length ≤ 20) (hm : ∀ q ∈ l, q.f0.f1.length ≤ 1000000) (d : Int) (hd : d < 2) : ∀ (e i : Nat), l.length - i = e → i ≤ l.length → Ev (fun k => sequiturref30_Splits.l0 k l v d [] true i) ([], 0) := by
  intro e
  induction e with
  | zero =>
    intro i h1 h2
    refine Ev.succ ?_
    simp only [sequiturref30_Splits.l0]
    exact Ev.neg (by omega) (Ev.neg (by simp) (Ev.pos trivial (Ev.now fun _ => rfl)))
  | succ e ih =>
    intro i h1 h2
    have hi : i < l.length := by omega
    have hB := by27g_ev l[i].f0.f0 l[i].f0.f1 v (hm _ (List.getElem_mem hi))
    have hI := ih (i+1) (by omega) (by omega)
    refine Ev.succ ?_
    simp only [sequiturref30_Splits.l0]
    rw [rdI_at l i hi]
    have hj : ∀ t, Ev (fun k => sequiturref30_Splits.j1 k l v d [] true i t true) (([] : List S62), (0:Int)) := fun t => by
      refine Ev.succ ?_
      simp only [sequiturref30_Splits.j1]
      rw [show wrap64 ((i:Int) + 1) = ((i+1 : Nat) : Int) by rw [w64 (by omega) (by omega)]; omega]
      exact Ev.pos trivial hI
    refine Ev.pos (by omega) (Ev.pos (by omega) (Ev.bind hB ?_))
    rw [decide_eq_true hd]
    by_cases c : coefI l[i].f0.f1 v ≥ -1
    · exact Ev.pos c (hj _)
    · exact Ev.neg c (hj _)
theorem dTop_R (l : List S70) (v : Int) (hR : ∀ q ∈ l, R64 q.f0.f0 ∧ M64 q.f0.f1) : 0 ≤ dTop l v ∧ dTop l v ≤ 9223372036854775807 := by
  have key : ∀ (L : List S70) (a : Int), (∀ q ∈ L, cf v q ≤ 9223372036854775807) → 0 ≤ a → a ≤ 9223372036854775807 → 0 ≤ L.foldl (fun a q => mx a (cf v q)) a ∧ L.foldl (fun a q => mx a (cf v q)) a ≤ 9223372036854775807 := by
    intro L
    induction L with
    | nil => intro a _ h1 h2; exact ⟨h1, h2⟩
    | cons q L ih =>
      intro a h h1 h2
      have hq := h q (List.mem_cons_self ..)
      exact ih (mx a (cf v q)) (fun q hq => h q (List.mem_cons_of_mem _ hq)) (by unfold mx; split <;> omega) (by unfold mx; split <;> omega)
  exact key l 0 (fun q hq => (cf_R64 (hR q hq).2 v).2) (by omega) (by omega)
theorem refSplitsG_ev (l : List S70) (v : Int) (hl : l.length ≤ 20) (hR : ∀ q ∈ l, R64 q.f0.f0 ∧ M64 q.f0.f1) (hm : ∀ q ∈ l, q.f0.f1.length ≤ 1000000) : Ev (fun k => sequiturref30_Splits.f k l v) (splitsD l v) := by
  have hm9 : ∀ q ∈ l, q.f0.f1.length ≤ 9223372036854775807 := fun q hq => by have := hm q hq; omega
  refine Ev.bind (right30_ev l v (by omega) hm9) ?_
  unfold splitsD
  by_cases c : wrongB l v = true
  · rw [c, if_pos rfl]
    exact Ev.neg (by simp) (Ev.now fun _ => rfl)
  · have hw : wrongB l v = false := by simpa using c
    rw [hw, if_neg (by simp)]
    refine Ev.pos rfl (Ev.bind (top_ev l v (by omega) hm) ?_)
    by_cases d : dTop l v < 2
    · rw [if_pos d]
      exact refG_skip l v hl hm _ d _ 0 rfl (by omega)
    · rw [if_neg d]
      have hdt := dTop_R l v hR
      have := refG_l0 l v hl (fun q hq => ((wrongB_not hw).2.2 q hq).2) hR hm (dTop l v) (by omega) hdt.2 _ 0 [] [] true rfl (by omega) (fun q hq => by cases hq) ⟨rfl, rfl, fun _ => rfl⟩ (by simp)
      rw [List.drop_zero, List.nil_append] at this
      exact this
theorem splitsD_fine (l : List S70) (v : Int) (hl : l.length ≤ 20) : (splitsD l v).1.length ≤ 1000000 ∧ ∀ t ∈ (splitsD l v).1, t.f1.length ≤ 64 := by
  have hn : ∀ e : Int, ((([] : List S62), e) : List S62 × Int).1.length ≤ 1000000 ∧ ∀ t ∈ ((([] : List S62), e) : List S62 × Int).1, t.f1.length ≤ 64 := fun e => ⟨by simp, fun t ht => by cases ht⟩
  unfold splitsD
  by_cases c1 : wrongB l v = true
  · rw [if_pos c1]; exact hn _
  rw [if_neg c1]
  by_cases c2 : dTop l v < 2
  · rw [if_pos c2]; exact hn _
  rw [if_neg c2]
  by_cases c3 : sumN v (dTop l v) (lowS l v) 0 > 1024
  · rw [if_pos c3]; exact hn _
  rw [if_neg c3]
  split
  · have hlow : ∀ q ∈ lowS l v, cf v q < -1 := fun q hq => by simpa using (List.mem_filter.1 hq).2
    have hs := (sumN_le v (dTop l v) (by omega) (lowS l v) 0 hlow).2
    have hc : ∀ q ∈ lowS l v, (spAll v (dTop l v) q).length ≤ 1024 := fun q hq => by
      have := hs q hq
      unfold mn at this
      unfold spAll
      simp only [List.length_map, List.length_range]
      split at this <;> omega
    have hfl : ∀ L : List S70, (∀ q ∈ L, (spAll v (dTop l v) q).length ≤ 1024) → (L.flatMap (spAll v (dTop l v))).length ≤ L.length * 1024 := by
      intro L
      induction L with
      | nil => intro _; simp
      | cons a L ih =>
        intro h
        have h1 := ih fun i hi => h i (List.mem_cons_of_mem _ hi)
        have h2 := h a (List.mem_cons_self ..)
        simp only [List.flatMap_cons, List.length_append, List.length_cons]
        omega
    have hll : (lowS l v).length ≤ l.length := List.length_filter_le _ _
    have := hfl _ hc
    refine ⟨by rw [List.length_map]; omega, fun t ht => ?_⟩
    obtain ⟨p, hp, rfl⟩ := List.mem_map.1 ht
    obtain ⟨q, _, hp⟩ := List.mem_flatMap.1 hp
    obtain ⟨j, _, rfl⟩ := List.mem_map.1 hp
    exact linOf_len _ 64
  · exact hn _
theorem lins_l0 (T : List S62) (hl : T.length ≤ 1000000) (hT : ∀ t ∈ T, t.f1.length ≤ 64) : ∀ (d i : Nat), T.length - i = d → i ≤ T.length → Ev (fun k => sequiturbase_Lins.l0 k T T i) true := by
  intro d
  induction d with
  | zero =>
    intro i h1 h2
    refine Ev.succ ?_
    simp only [sequiturbase_Lins.l0]
    exact Ev.neg (by omega) (Ev.now fun _ => rfl)
  | succ d ih =>
    intro i h1 h2
    have hi : i < T.length := by omega
    have hr : rd_T62 T (i : Int) = T[i] := by simp [rd_T62, hi]
    have hln := hT _ (List.getElem_mem hi)
    refine Ev.succ ?_
    simp only [sequiturbase_Lins.l0]
    rw [hr, show wrap64 ((i:Int) + 1) = ((i+1 : Nat) : Int) by rw [w64 (by omega) (by omega)]; omega]
    exact Ev.pos (by omega) (Ev.pos (by omega) (Ev.pos (by omega) (Ev.bind (baseLin_ev T[i].f0 T[i].f1 (by omega)) (Ev.pos rfl (ih (i+1) (by omega) (by omega))))))
theorem lins_ev (T : List S62) (hl : T.length ≤ 1000000) (hT : ∀ t ∈ T, t.f1.length ≤ 64) : Ev (fun k => sequiturbase_Lins.f k T T) true := Ev.pos rfl (lins_l0 T hl hT _ 0 rfl (by omega))
theorem ShadowSplits_pure (l : List S70) (v : Int) (hQ : ∀ q ∈ l, Q30 q) (hlm : l.length ≤ maxLen) : ∃ k, sequiturlaw30_ShadowSplits.f k l v = some true := by
  have hR := Q30_R hQ
  refine Ev.at_ (f := fun k => sequiturlaw30_ShadowSplits.f k l v) (Ev.bind alive30_ev (Ev.pos rfl (Ev.bind (long30_ev l 20 (by omega)) ?_)))
  by_cases hL : longI l 20 = true
  · exact Ev.pos hL (Ev.now fun _ => rfl)
  refine Ev.neg hL ?_
  obtain ⟨n1, n2⟩ := longI_not (show longI l 20 = false by simpa using hL)
  have hm : ∀ q ∈ l, q.f0.f1.length ≤ 1000000 := fun q hq => Nat.le_trans (n2 q hq) (by decide)
  obtain ⟨f1, f2⟩ := splitsD_fine l v (by omega)
  exact Ev.bind (splitsG_ev l v (by omega) hR hm) (Ev.bind (refSplitsG_ev l v (by omega) hR hm) (Ev.bind (lins_ev _ f1 f2) (Ev.pos rfl (Ev.now fun _ => by simp))))
end Go.Proofs.Ytkfbfgkdabljiaa.Pure
