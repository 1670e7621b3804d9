/- Where all hold by whole numbers, the real shadow holds, and the dark one, or one of the splits is 0: for every inequalities and values (asked of at most 12, of numbers of size at most 1000, numbers of times of at most 100). -/
import Derived.Test.YtkfbfgkdabljiaaPShadowHoldsx
import Derived.Laws.BitsAllLaws
import Derived.Deep.Slices
import Derived.ChangeSame
import Derived.KernelRfl
import Derived.OpenShut
namespace Go.Proofs.Ytkfbfgkdabljiaa.Pure
open Go.RowKit Go.Proofs.Ytkfbfgkdabljiaa.PShadowHolds Go.Proofs.YtkfbfgkdabljiaaW.PrintWords Go.Proofs.YtkfbfgkdabljiaaW.PrintLast
set_option linter.unusedVariables false
set_option linter.unusedSimpArgs false
/-- A number, if it fits. -/
def fitI (n : Int) : Int × Bool := if -9223372036854775808 ≤ n ∧ n ≤ 9223372036854775807 then (n, true) else (0, false)
theorem abs_mul_lt {a b : Int} (h1 : -9223372036854775808 ≤ a) (h2 : a ≤ 9223372036854775807) (h3 : -9223372036854775808 ≤ b) (h4 : b ≤ 9223372036854775807) : a.natAbs * b.natAbs ≤ 85070591730234615865843651857942052864 :=
  Nat.le_trans (Nat.mul_le_mul (show a.natAbs ≤ 9223372036854775808 by omega) (show b.natAbs ≤ 9223372036854775808 by omega)) (by decide)
-- one round of the halving: x odd, y = 2^t * z, z odd
theorem u64w (n : Int) : IntKind.u64.wrap n = n % 18446744073709551616 := by
  simp [IntKind.wrap, IntKind.bits, IntKind.signed]
theorem wf64 {a : Int} (h : (Lit.int .i64 a).wf = true) : -9223372036854775808 ≤ a ∧ a ≤ 9223372036854775807 := by
  simpa [Lit.wf, IntKind.min, IntKind.max, IntKind.signed, IntKind.bits] using h
theorem w64 {n : Int} (h1 : -9223372036854775808 ≤ n) (h2 : n ≤ 9223372036854775807) : wrap64 n = n := by
  unfold wrap64; omega
def I64 (l : List Int) : Prop := ∀ x ∈ l, -9223372036854775808 ≤ x ∧ x ≤ 9223372036854775807
theorem rd_at (l : List Int) (i : Nat) (h : i < l.length) : rd l (i:Int) = l[i] := by
  simp [rd, h]
/-- At all great fuels the same answer. -/
def Ev {α : Type} (f : Nat → Option α) (v : α) : Prop := ∃ K, ∀ k, K ≤ k → f k = some v
theorem Ev.now {α : Type} {f : Nat → Option α} {v : α} (h : ∀ k, f k = some v) : Ev f v := ⟨0, fun k _ => h k⟩
theorem Ev.succ {α : Type} {f : Nat → Option α} {v : α} (h : Ev (fun k => f (k + 1)) v) : Ev f v := by
  obtain ⟨K, h⟩ := h
  refine ⟨K + 1, fun k hk => ?_⟩
  obtain ⟨m, rfl⟩ : ∃ m, k = m + 1 := ⟨k - 1, by omega⟩
  exact h m (by omega)
theorem Ev.bind {α β : Type} {f : Nat → Option α} {g : Nat → α → Option β} {v : α} {u : β} (h : Ev f v) (h2 : Ev (fun k => g k v) u) : Ev (fun k => (f k).bind (g k)) u := by
  obtain ⟨K, h⟩ := h
  obtain ⟨K2, h2⟩ := h2
  refine ⟨max K K2, fun k hk => ?_⟩
  show (f k).bind (g k) = some u
  rw [h k (by omega)]
  exact h2 k (by omega)
theorem Ev.of {α : Type} {f g : Nat → Option α} {v : α} (h : Ev f v) (e : ∀ k, g k = f k) : Ev g v := by
  obtain ⟨K, h⟩ := h
  exact ⟨K, fun k hk => (e k).trans (h k hk)⟩
theorem Ev.at_ {α : Type} {f : Nat → Option α} {v : α} (h : Ev f v) : ∃ k, f k = some v := by
  obtain ⟨K, h⟩ := h
  exact ⟨K, h K (Nat.le_refl _)⟩
theorem Ev.mono {α : Type} {f : Nat → Option α} {v : α} (K : Nat) (hm : ∀ k, LeO (f k) (f (k + 1))) (h : f K = some v) : Ev f v := by
  refine ⟨K, fun k hk => ?_⟩
  obtain ⟨d, rfl⟩ := Nat.exists_eq_add_of_le hk
  induction d with
  | zero => exact h
  | succ d ih => exact hm (K + d) v (ih (by omega))
theorem Ev.val {α : Type} {f : Nat → Option α} {v u : α} (h : Ev f v) (e : v = u) : Ev f u := e ▸ h
theorem Ev.pos {α : Type} {c : Prop} [Decidable c] {f g : Nat → Option α} {v : α} (h : c) (hf : Ev f v) : Ev (fun k => if c then f k else g k) v := hf.of fun k => if_pos h
theorem Ev.neg {α : Type} {c : Prop} [Decidable c] {f g : Nat → Option α} {v : α} (h : ¬ c) (hf : Ev g v) : Ev (fun k => if c then f k else g k) v := hf.of fun k => if_neg h
theorem rdM_at (l : List S68) (i : Nat) (h : i < l.length) : rd_T68 l (i:Int) = l[i] := by simp [rd_T68, h]
theorem rdQ_at (l : List S62) (i : Nat) (h : i < l.length) : rd_T62 l (i:Int) = l[i] := by simp [rd_T62, h]
theorem rdI_at (l : List S70) (i : Nat) (h : i < l.length) : rd_T70 l (i:Int) = l[i] := by simp [rd_T70, h]
/-- Are the variables in order, of the 64, and no factor zero? -/
def rightL : Int → List S68 → Bool
  | _, [] => true
  | last, m :: l => decide (last < m.f0) && decide (m.f0 < 64) && decide (m.f1 ≠ 0) && rightL m.f0 l
theorem Right_l0 (l : List S68) (hl : l.length ≤ 9223372036854775807) : ∀ (d i : Nat) (last : Int), l.length - i = d → i ≤ l.length →
    Ev (fun k => lin_Right.l0 k last l (l.length:Int) i) (if rightL last (l.drop i) = true then 0 else 1) := by
  intro d
  induction d with
  | zero =>
    intro i last h1 h2
    refine Ev.succ (Ev.now fun k => ?_)
    simp only [lin_Right.l0]
    rw [if_neg (by omega), List.drop_eq_nil_of_le (by omega)]; rfl
  | succ d ih =>
    intro i last h1 h2
    have hi : i < l.length := by omega
    rw [List.drop_eq_getElem_cons hi]
    by_cases e : last < l[i].f0 ∧ l[i].f0 < 64 ∧ l[i].f1 ≠ 0
    · obtain ⟨e1, e2, e3⟩ := e
      refine Ev.succ (Ev.of (ih (i+1) l[i].f0 (by omega) (by omega)) fun k => ?_) |>.val ?_
      · simp only [lin_Right.l0]
        rw [if_pos (by omega), if_pos (by omega), if_pos (by omega), rdM_at l i hi, if_neg (by omega), if_neg (by omega), if_neg e3, w64 (by omega) (by omega)]; rfl
      · simp only [rightL, decide_eq_true e1, decide_eq_true e2, decide_eq_true e3, Bool.true_and]
    · refine Ev.succ (Ev.now fun k => ?_)
      have hr : rightL last (l[i] :: l.drop (i+1)) = false := by
        simp only [rightL, Bool.and_eq_false_iff, decide_eq_false_iff_not]
        omega
      rw [hr]
      simp only [lin_Right.l0]
      rw [if_pos (by omega), if_pos (by omega), if_pos (by omega), rdM_at l i hi]
      by_cases e1 : l[i].f0 ≤ last
      · rw [if_pos e1]; rfl
      by_cases e2 : l[i].f0 ≥ 64
      · rw [if_neg e1, if_pos e2]; rfl
      · rw [if_neg e1, if_neg e2, if_pos (by omega)]; rfl
theorem Right_ev (K : Int) (l : List S68) (hl : l.length ≤ 9223372036854775807) : Ev (fun k => lin_Right.f k K l) (if rightL (-1) l = true then 0 else 1) := by
  have := Right_l0 l hl _ 0 (-1) rfl (by omega)
  exact this
theorem iRight_ev (K : Int) (l : List S68) (b : Bool) (hl : l.length ≤ 9223372036854775807) : Ev (fun k => ineq_Right.f k K l b) (if rightL (-1) l = true then 0 else 1) :=
  Ev.bind (Right_ev K l hl) (Ev.now fun _ => rfl)
theorem right1_ev (K : Int) (l : List S68) (hl : l.length ≤ 9223372036854775807) : Ev (fun k => lin_right_1.f k K l) (!rightL (-1) l) :=
  Ev.bind (Right_ev K l hl) (Ev.now fun _ => by cases rightL (-1) l <;> rfl)
theorem idx_l0 (l : List S62) (hl : l.length ≤ 9223372036854775807) (hm : ∀ q ∈ l, q.f1.length ≤ 9223372036854775807) : ∀ (d i : Nat), l.length - i = d → i ≤ l.length →
    ∃ v, Ev (fun k => api_Lin_117.l0 k l (l.length:Int) i) v ∧ decide (v ≥ 0) = !((l.drop i).all fun q => rightL (-1) q.f1) := by
  intro d
  induction d with
  | zero =>
    intro i h1 h2
    refine ⟨-1, Ev.succ (Ev.now fun k => ?_), ?_⟩
    · simp only [api_Lin_117.l0]
      rw [if_neg (by omega)]
    · rw [List.drop_eq_nil_of_le (by omega)]; rfl
  | succ d ih =>
    intro i h1 h2
    have hi : i < l.length := by omega
    rw [List.drop_eq_getElem_cons hi]
    have hq := right1_ev l[i].f0 l[i].f1 (hm _ (List.getElem_mem hi))
    obtain ⟨v, ev, hv⟩ := ih (i+1) (by omega) (by omega)
    have hs : ∀ k, api_Lin_117.l0 (k+1) l (l.length:Int) i = (lin_right_1.f k l[i].f0 l[i].f1).bind fun t => if t = true then some (i:Int) else api_Lin_117.l0 k l (l.length:Int) ((i+1 : Nat) : Int) := by
      intro k
      simp only [api_Lin_117.l0]
      rw [if_pos (by omega), if_pos (by omega), if_pos (by omega), rdQ_at l i hi, w64 (by omega) (by omega)]; rfl
    by_cases e : rightL (-1) l[i].f1 = true
    · rw [e] at hq
      refine ⟨v, Ev.succ (Ev.of (Ev.bind hq ?_) hs), ?_⟩
      · exact Ev.of ev fun k => by simp
      · rw [hv, List.all_cons, e, Bool.true_and]
    · have e' : rightL (-1) l[i].f1 = false := by simpa using e
      rw [e'] at hq
      refine ⟨i, Ev.succ (Ev.of (Ev.bind hq ?_) hs), ?_⟩
      · exact Ev.now fun k => by simp
      · rw [List.all_cons, e']; simp
theorem linright_ev (l : List S62) (hl : l.length ≤ 9223372036854775807) (hm : ∀ q ∈ l, q.f1.length ≤ 9223372036854775807) : Ev (fun k => lin_right.f k l) (l.all fun q => rightL (-1) q.f1) := by
  obtain ⟨v, ev, hv⟩ := idx_l0 l hl hm _ 0 rfl (by omega)
  rw [List.drop_zero] at hv
  refine Ev.bind (v := decide (v ≥ 0)) (Ev.bind ev (Ev.now fun _ => rfl)) (Ev.now fun _ => ?_)
  rw [hv]; simp
theorem rightL_mem : ∀ (l : List S68) (last : Int), rightL last l = true → ∀ m ∈ l, last < m.f0 ∧ m.f0 < 64 ∧ m.f1 ≠ 0 := by
  intro l
  induction l with
  | nil => intro last _ m hm; cases hm
  | cons a l ih =>
    intro last h m hm
    simp only [rightL, Bool.and_eq_true, decide_eq_true_eq] at h
    rcases List.mem_cons.1 hm with e | e
    · subst e; exact ⟨h.1.1.1, h.1.1.2, h.1.2⟩
    · have := ih a.f0 h.2 m e; omega
theorem rightL_len : ∀ (l : List S68) (last : Int), last ≤ 63 → rightL last l = true → (l.length : Int) ≤ 63 - last := by
  intro l
  induction l with
  | nil => intro last h _; simp; omega
  | cons a l ih =>
    intro last h0 h
    simp only [rightL, Bool.and_eq_true, decide_eq_true_eq] at h
    have := ih a.f0 (by omega) h.2
    simp only [List.length_cons]; omega
/-- The monomials' ranges. -/
def M64 (l : List S68) : Prop := ∀ m ∈ l, (-9223372036854775808 ≤ m.f0 ∧ m.f0 ≤ 9223372036854775807) ∧ -9223372036854775808 ≤ m.f1 ∧ m.f1 ≤ 9223372036854775807
def R64 (n : Int) : Prop := -9223372036854775808 ≤ n ∧ n ≤ 9223372036854775807
theorem in64_of {n : Int} (h : R64 n) : in64 n = true := by
  simp only [in64, Bool.and_eq_true, decide_eq_true_eq]; exact h
theorem rd_R64 {x : List Int} (hx : I64 x) (i : Int) : R64 (rd x i) := by
  unfold rd
  by_cases h : i.toNat < x.length
  · rw [List.getD_eq_getElem?_getD, List.getElem?_eq_getElem h]; exact hx _ (List.getElem_mem h)
  · rw [List.getD_eq_getElem?_getD, List.getElem?_eq_none (by omega)]; exact ⟨by simp, by simp⟩
theorem mul_R64 {a b : Int} (ha : R64 a) (hb : R64 b) : -85070591730234615865843651857942052864 ≤ a * b ∧ a * b ≤ 85070591730234615865843651857942052864 := by
  have h := abs_mul_lt ha.1 ha.2 hb.1 hb.2
  rw [← Int.natAbs_mul] at h
  omega
theorem wrap192_id {s : Int} (h1 : -3138550867693340381917894711603833208051177722232017256448 ≤ s) (h2 : s < 3138550867693340381917894711603833208051177722232017256448) : wrap192 s = s := by
  unfold wrap192; omega
/-- The constant divided, rounded up, and a monomial divided. -/
def ceilD (K d : Int) : Int := -((-K) / d)
theorem ceil_law {K d : Int} (hd : 1 ≤ d) : d * (ceilD K d - 1) < K ∧ K ≤ d * ceilD K d := by
  unfold ceilD
  have h1 := Int.ediv_mul_le (-K) (show d ≠ 0 by omega)
  have h2 := Int.lt_ediv_add_one_mul_self (-K) (show 0 < d by omega)
  rw [Int.mul_comm] at h1 h2
  generalize (-K) / d = q at *
  rw [Int.mul_add] at h2
  rw [Int.mul_sub, Int.mul_neg]
  omega
theorem ceilD_uniq {K d c : Int} (hd : 1 ≤ d) (h1 : d * (c - 1) < K) (h2 : K ≤ d * c) : c = ceilD K d := by
  obtain ⟨p1, p2⟩ := ceil_law (K := K) hd
  have a1 : d * (c - 1) < d * ceilD K d := by omega
  have a2 : d * (ceilD K d - 1) < d * c := by omega
  have b1 := Int.lt_of_mul_lt_mul_left a1 (by omega)
  have b2 := Int.lt_of_mul_lt_mul_left a2 (by omega)
  omega
instance instR64 (n : Int) : Decidable (R64 n) := inferInstanceAs (Decidable (_ ∧ _))
def evalStep (x : List Int) (s : Int) (m : S68) : Int := if m.f0 < (x.length : Int) then s + m.f1 * rd x m.f0 else s
def evalSum (K : Int) (L : List S68) (x : List Int) : Int := L.foldl (evalStep x) (0 + K * 1)
theorem evalFold_add (x : List Int) : ∀ (l : List S68) (s : Int), l.foldl (evalStep x) s = s + l.foldl (evalStep x) 0 := by
  intro l
  induction l with
  | nil => intro s; simp
  | cons a l ih =>
    intro s
    simp only [List.foldl_cons]
    rw [ih (evalStep x s a), ih (evalStep x 0 a)]
    unfold evalStep; split <;> omega
theorem evalSum_eq (K : Int) (l : List S68) (x : List Int) : evalSum K l x = K + l.foldl (evalStep x) 0 := by
  unfold evalSum; rw [evalFold_add]; omega
theorem Far_eq {a : Int} (h1 : -9223372036854775808 ≤ a) (h2 : a ≤ 9223372036854775807) : sequiturref01_Far.f a = some (a.natAbs : Int) := by
  unfold sequiturref01_Far.f
  simp only [u64w]
  split <;> congr 1 <;> omega
/-- The two halves of a number, up to a multiple of 2^128. -/
def hiW (v : Int) : Int := wrap64 (v / 18446744073709551616)
def loW (v : Int) : Int := v % 18446744073709551616
theorem xor_all (x : Int) (h1 : 0 ≤ x) (h2 : x < 18446744073709551616) : Go.bits .xor .u64 18446744073709551615 x = 18446744073709551615 - x := by
  obtain ⟨n, rfl⟩ := Int.eq_ofNat_of_zero_le h1
  refine Eq.trans (u64_xor_nat 18446744073709551615 n (by decide) (by omega)) ?_
  have h : (BitVec.allOnes 64 ^^^ BitVec.ofNat 64 n).toNat = 18446744073709551615 ^^^ n := by
    rw [BitVec.toNat_xor, BitVec.toNat_allOnes, BitVec.toNat_ofNat, Nat.mod_eq_of_lt (by omega)]
  rw [BitVec.allOnes_xor, BitVec.toNat_not, BitVec.toNat_ofNat, Nat.mod_eq_of_lt (by omega)] at h
  omega
theorem Of_eq {a : Int} (h1 : -9223372036854775808 ≤ a) (h2 : a ≤ 9223372036854775807) : sequiturref01_Of.f a = some (hiW a, loW a) := by
  unfold sequiturref01_Of.f hiW loW wrap64
  simp only [u64w]
  split <;> congr 2 <;> omega
theorem Plus_eq (v w : Int) : sequiturref01_Plus.f (hiW v) (loW v) (hiW w) (loW w) = some (hiW (v + w), loW (v + w)) := by
  unfold sequiturref01_Plus.f hiW loW wrap64
  simp only [u64w]
  split <;> congr 2 <;> omega
theorem hiW0 : hiW 0 = 0 := by unfold hiW wrap64; omega
theorem loW0 : loW 0 = 0 := by decide
theorem hiW1 : hiW 1 = 0 := by unfold hiW wrap64; omega
theorem loW1 : loW 1 = 1 := by decide
theorem Minus_eq (v : Int) : sequiturref01_Minus.f (hiW v) (loW v) = some (hiW (-v), loW (-v)) := by
  unfold sequiturref01_Minus.f
  rw [xor_all _ (by unfold loW; omega) (by unfold loW; omega)]
  rw [show wrap64 (-1 - hiW v) = hiW (-1 - v) by unfold hiW wrap64; omega, show 18446744073709551615 - loW v = loW (-1 - v) by unfold loW; omega]
  have := Plus_eq (-1 - v) 1
  rw [hiW1, loW1] at this
  rw [this, show -1 - v + 1 = -v by omega]; rfl
theorem Fits_eq (v : Int) (h1 : -170141183460469231731687303715884105728 ≤ v) (h2 : v < 170141183460469231731687303715884105728) : sequiturref01_Fits.f (hiW v) (loW v) = some (fitI v) := by
  have e : wrap64 (loW v) = if loW v < 9223372036854775808 then loW v else loW v - 18446744073709551616 := by
    have : 0 ≤ loW v ∧ loW v < 18446744073709551616 := by unfold loW; omega
    unfold wrap64; split <;> omega
  have hh : hiW v = v / 18446744073709551616 := by unfold hiW; exact w64 (by omega) (by omega)
  unfold sequiturref01_Fits.f fitI
  rw [e, hh]
  unfold loW
  repeat' split
  all_goals first | omega | (congr 2; omega) | rfl
theorem Times_l0 : ∀ (u : Nat) (x o : Int), u < 18446744073709551616 → ∃ K, ∀ k, K ≤ k → sequiturref01_Times.l0 k u (hiW x) (loW x) (hiW o) (loW o) = some (hiW (o + u * x), loW (o + u * x)) := by
  intro u
  induction u using Nat.strongRecOn with
  | _ u ih =>
    intro x o hu
    by_cases h : u = 0
    · subst h
      refine ⟨1, fun k hk => ?_⟩
      obtain ⟨m, rfl⟩ : ∃ m, k = m + 1 := ⟨k - 1, by omega⟩
      simp only [sequiturref01_Times.l0]
      rw [if_neg (by omega)]; simp
    · have ht : Int.tdiv (u:Int) 2 = ((u / 2 : Nat) : Int) := (Int.ofNat_tdiv u 2).symm
      have hm : Int.tmod (u:Int) 2 = ((u % 2 : Nat) : Int) := (Int.ofNat_tmod u 2).symm
      have hw : IntKind.u64.wrap (Int.tdiv (u:Int) 2) = ((u / 2 : Nat) : Int) := by rw [ht, u64w]; omega
      have hx : ((u / 2 : Nat) : Int) * (x + x) = ((u - u % 2 : Nat) : Int) * x := by
        rw [← Int.two_mul, ← Int.mul_assoc]; congr 1; omega
      by_cases e : u % 2 = 1
      · obtain ⟨K, ev⟩ := ih (u / 2) (by omega) (x + x) (o + x) (by omega)
        refine ⟨K + 1, fun k hk => ?_⟩
        obtain ⟨m, rfl⟩ : ∃ m, k = m + 1 := ⟨k - 1, by omega⟩
        simp only [sequiturref01_Times.l0]
        rw [if_pos (by omega), hm, e, if_pos (by rfl), Plus_eq, Plus_eq]
        simp only [Option.bind_some]
        rw [hw, ev m (by omega), hx, e]
        have : o + x + ((u - 1 : Nat) : Int) * x = o + u * x := by
          have : (u : Int) = ((u - 1 : Nat) : Int) + 1 := by omega
          rw [this, Int.add_mul]; omega
        rw [this]
      · obtain ⟨K, ev⟩ := ih (u / 2) (by omega) (x + x) o (by omega)
        refine ⟨K + 1, fun k hk => ?_⟩
        obtain ⟨m, rfl⟩ : ∃ m, k = m + 1 := ⟨k - 1, by omega⟩
        simp only [sequiturref01_Times.l0]
        rw [if_pos (by omega), hm, if_neg (by omega), Plus_eq]
        simp only [Option.bind_some]
        rw [hw, ev m (by omega), hx, show u % 2 = 0 by omega]; rfl
theorem Times_ev {a b : Int} (h1 : -9223372036854775808 ≤ a) (h2 : a ≤ 9223372036854775807) (h3 : -9223372036854775808 ≤ b) (h4 : b ≤ 9223372036854775807) :
    ∃ K, ∀ k, K ≤ k → sequiturref01_Times.f k a b = some (hiW (a * b), loW (a * b)) := by
  by_cases hb : b < 0
  · obtain ⟨K, ev⟩ := Times_l0 b.natAbs (-a) 0 (by omega)
    refine ⟨K + 1, fun k hk => ?_⟩
    obtain ⟨m, rfl⟩ : ∃ m, k = m + 1 := ⟨k - 1, by omega⟩
    unfold sequiturref01_Times.f
    rw [Of_eq h1 h2]
    simp only [Option.bind_some]
    rw [if_pos hb, Minus_eq]
    simp only [Option.bind_some, sequiturref01_Times.j0]
    rw [Far_eq h3 h4]
    simp only [Option.bind_some]
    have e : (0:Int) + (b.natAbs : Int) * -a = a * b := by
      rw [show (b.natAbs : Int) = -b by omega, Int.neg_mul_neg, Int.mul_comm]; omega
    rw [← e]
    have := ev m (by omega)
    rw [hiW0, loW0] at this
    exact this
  · obtain ⟨K, ev⟩ := Times_l0 b.natAbs a 0 (by omega)
    refine ⟨K + 1, fun k hk => ?_⟩
    obtain ⟨m, rfl⟩ : ∃ m, k = m + 1 := ⟨k - 1, by omega⟩
    unfold sequiturref01_Times.f
    rw [Of_eq h1 h2]
    simp only [Option.bind_some]
    rw [if_neg hb]
    simp only [sequiturref01_Times.j0]
    rw [Far_eq h3 h4]
    simp only [Option.bind_some]
    have e : (0:Int) + (b.natAbs : Int) * a = a * b := by
      rw [show (b.natAbs : Int) = b by omega, Int.mul_comm]; omega
    rw [← e]
    have := ev m (by omega)
    rw [hiW0, loW0] at this
    exact this
/-! Sums of the 64 variables' parts. -/
def sg : Nat → (Nat → Int) → Int
  | 0, _ => 0
  | n + 1, f => sg n f + f n
theorem sg_congr {n : Nat} {f g : Nat → Int} (h : ∀ i, i < n → f i = g i) : sg n f = sg n g := by
  induction n with
  | zero => rfl
  | succ n ih => simp only [sg]; rw [ih (fun i hi => h i (by omega)), h n (by omega)]
theorem sg_add (n : Nat) (f g : Nat → Int) : sg n (fun i => f i + g i) = sg n f + sg n g := by
  induction n with
  | zero => rfl
  | succ n ih => simp only [sg]; rw [ih]; omega
theorem sg_mul (n : Nat) (f : Nat → Int) (c : Int) : sg n (fun i => f i * c) = sg n f * c := by
  induction n with
  | zero => simp [sg]
  | succ n ih => simp only [sg]; rw [ih, Int.add_mul]
theorem sg_zero (n : Nat) : sg n (fun _ => 0) = 0 := by
  induction n with
  | zero => rfl
  | succ n ih => simp only [sg]; rw [ih]; rfl
theorem sg_one (n j : Nat) (hj : j < n) (c : Int) : sg n (fun i => if j = i then c else 0) = c := by
  induction n with
  | zero => omega
  | succ n ih =>
    simp only [sg]
    by_cases e : j = n
    · subst e
      rw [if_pos rfl, sg_congr (g := fun _ => 0) (fun i hi => if_neg (by omega)), sg_zero]; omega
    · rw [if_neg e, ih (by omega)]; omega
/-- How many times a variable stands in a form. -/
def coef : List S68 → Nat → Int
  | [], _ => 0
  | m :: l, v => (if m.f0 = (v : Int) then m.f1 else 0) + coef l v
theorem rightL_vars {l : List S68} (h : rightL (-1) l = true) : ∀ m ∈ l, 0 ≤ m.f0 ∧ m.f0 < 64 := fun m hm => by
  have := rightL_mem l (-1) h m hm; omega
theorem coef_none : ∀ (l : List S68) (last : Int), rightL last l = true → ∀ v : Nat, (v : Int) ≤ last → coef l v = 0 := by
  intro l
  induction l with
  | nil => intro _ _ _ _; rfl
  | cons m l ih =>
    intro last h v hv
    simp only [rightL, Bool.and_eq_true, decide_eq_true_eq] at h
    simp only [coef]
    rw [if_neg (by omega), ih m.f0 h.2 v (by omega)]; rfl
theorem coef_R64 : ∀ (l : List S68) (last : Int), rightL last l = true → M64 l → ∀ v : Nat, R64 (coef l v) := by
  intro l
  induction l with
  | nil => intro _ _ _ _; exact ⟨by simp [coef], by simp [coef]⟩
  | cons m l ih =>
    intro last h hM v
    have hr := h
    simp only [rightL, Bool.and_eq_true, decide_eq_true_eq] at h
    simp only [coef]
    by_cases e : m.f0 = (v : Int)
    · rw [if_pos e, coef_none l m.f0 h.2 v (by omega), Int.add_zero]; exact (hM m (List.mem_cons_self ..)).2
    · rw [if_neg e, Int.zero_add]; exact ih m.f0 h.2 (fun a ha => hM a (List.mem_cons_of_mem _ ha)) v
/-- The form of which the variables stand so many times. -/
def linOf (c : Nat → Int) (n : Nat) : List S68 := (List.range n).filterMap fun i => if c i = 0 then none else some ⟨(i : Int), c i⟩
theorem linOf_succ (c : Nat → Int) (n : Nat) : linOf c (n + 1) = linOf c n ++ (if c n = 0 then [] else [⟨(n : Int), c n⟩]) := by
  unfold linOf
  rw [List.range_succ, List.filterMap_append]
  congr 1
  simp only [List.filterMap_cons, List.filterMap_nil]
  split <;> simp_all
theorem linOf_mem (c : Nat → Int) : ∀ (n : Nat) (m : S68), m ∈ linOf c n → ∃ i : Nat, i < n ∧ m = ⟨(i : Int), c i⟩ ∧ c i ≠ 0 := by
  intro n
  induction n with
  | zero => intro m hm; cases hm
  | succ n ih =>
    intro m hm
    rw [linOf_succ] at hm
    rcases List.mem_append.1 hm with h | h
    · obtain ⟨i, h1, h2⟩ := ih m h; exact ⟨i, by omega, h2⟩
    · by_cases e : c n = 0
      · rw [if_pos e] at h; cases h
      · rw [if_neg e] at h; exact ⟨n, by omega, by simpa using h, e⟩
theorem linOf_len (c : Nat → Int) (n : Nat) : (linOf c n).length ≤ n := by
  have := List.length_filterMap_le (fun i : Nat => if c i = 0 then none else some (⟨(i : Int), c i⟩ : S68)) (List.range n)
  simpa [linOf] using this
theorem rightL_append : ∀ (a : List S68) (last : Int) (m : S68), rightL last a = true → (∀ x ∈ a, x.f0 < m.f0) → last < m.f0 → m.f0 < 64 → m.f1 ≠ 0 → rightL last (a ++ [m]) = true := by
  intro a
  induction a with
  | nil => intro last m _ _ h1 h2 h3; simp [rightL, h1, h2, h3]
  | cons b a ih =>
    intro last m h hlt h1 h2 h3
    simp only [rightL, Bool.and_eq_true, List.cons_append] at h ⊢
    exact ⟨h.1, ih b.f0 m h.2 (fun x hx => hlt x (List.mem_cons_of_mem _ hx)) (hlt b (List.mem_cons_self ..)) h2 h3⟩
theorem linOf_right (c : Nat → Int) : ∀ n, n ≤ 64 → rightL (-1) (linOf c n) = true := by
  intro n
  induction n with
  | zero => intro _; rfl
  | succ n ih =>
    intro hn
    rw [linOf_succ]
    by_cases e : c n = 0
    · rw [if_pos e, List.append_nil]; exact ih (by omega)
    · rw [if_neg e]
      refine rightL_append _ _ _ (ih (by omega)) (fun x hx => ?_) (by simp only; omega) (by simp only; omega) e
      obtain ⟨i, hi, rfl, _⟩ := linOf_mem c n x hx
      simp only; omega
theorem linOf_M64 (c : Nat → Int) (n : Nat) (hn : n ≤ 64) (h : ∀ v, v < n → R64 (c v)) : M64 (linOf c n) := by
  intro m hm
  obtain ⟨i, hi, rfl, _⟩ := linOf_mem c n m hm
  exact ⟨⟨by simp only; omega, by simp only; omega⟩, h i hi⟩
theorem linOf_congr {c d : Nat → Int} {n : Nat} (h : ∀ i, i < n → c i = d i) : linOf c n = linOf d n := by
  induction n with
  | zero => rfl
  | succ n ih => rw [linOf_succ, linOf_succ, ih (fun i hi => h i (by omega)), h n (by omega)]
/-- How many times a variable stands in a sum; and the sum's constant. -/
def csum : List S158 → Nat → Int
  | [], _ => 0
  | x :: l, v => coef x.f0.f1 v * x.f1 + csum l v
def kS : List S158 → Int
  | [] => 0
  | x :: l => x.f0.f0 * x.f1 + kS l
theorem ksum_eq (l : List S158) : ∀ s, l.foldl (fun s x => s + x.f0.f0 * x.f1) s = s + kS l := by
  induction l with
  | nil => intro s; simp [kS]
  | cons x l ih => intro s; simp only [List.foldl_cons, kS]; rw [ih]; omega
theorem addM_len (b : Int) (acc : List Int) (m : S68) : (addM b acc m).length = acc.length := by simp [addM]
theorem addMs_len (b : Int) (l : List S68) : ∀ acc : List Int, (l.foldl (addM b) acc).length = acc.length := by
  induction l with
  | nil => intro _; rfl
  | cons m l ih => intro acc; rw [List.foldl_cons, ih, addM_len]
theorem addM_get (b : Int) (acc : List Int) (m : S68) (v : Nat) (hv : v < acc.length) (h0 : 0 ≤ m.f0) : (addM b acc m).getD v 0 = acc.getD v 0 + (if m.f0 = (v : Int) then m.f1 else 0) * b := by
  unfold addM
  rw [List.getD_eq_getElem?_getD, List.getElem?_set, List.getD_eq_getElem?_getD, List.getD_eq_getElem?_getD]
  by_cases e : m.f0 = (v : Int)
  · have e2 : m.f0.toNat = v := by omega
    rw [if_pos e, if_pos e2, if_pos (by omega), e2]; rfl
  · rw [if_neg e, if_neg (by omega), Int.zero_mul, Int.add_zero]
theorem addMs_get (b : Int) (v : Nat) (l : List S68) : ∀ acc : List Int, v < acc.length → (∀ m ∈ l, 0 ≤ m.f0) → (l.foldl (addM b) acc).getD v 0 = acc.getD v 0 + coef l v * b := by
  induction l with
  | nil => intro acc _ _; simp [coef]
  | cons m l ih =>
    intro acc hv h
    rw [List.foldl_cons, ih _ (by rw [addM_len]; exact hv) (fun a ha => h a (List.mem_cons_of_mem _ ha)), addM_get b acc m v hv (h m (List.mem_cons_self ..))]
    simp only [coef, Int.add_mul]; omega
theorem accs_get (v : Nat) (l : List S158) : ∀ acc : List Int, v < acc.length → (∀ x ∈ l, ∀ m ∈ x.f0.f1, 0 ≤ m.f0) → (l.foldl addF acc).getD v 0 = acc.getD v 0 + csum l v := by
  induction l with
  | nil => intro acc _ _; simp [csum]
  | cons x l ih =>
    intro acc hv h
    rw [List.foldl_cons, ih _ (by unfold addF; rw [addMs_len]; exact hv) (fun a ha => h a (List.mem_cons_of_mem _ ha))]
    unfold addF
    rw [addMs_get x.f1 v x.f0.f1 acc hv (h x (List.mem_cons_self ..))]
    simp only [csum]; omega
/-- A sum's parts: forms that are right, and numbers in range. -/
def G67 (l : List S158) : Prop := ∀ x ∈ l, R64 x.f0.f0 ∧ rightL (-1) x.f0.f1 = true ∧ M64 x.f0.f1 ∧ R64 x.f1
theorem G67_tail {x : S158} {l : List S158} (h : G67 (x :: l)) : G67 l := fun a ha => h a (List.mem_cons_of_mem _ ha)
theorem csum_le (v : Nat) : ∀ l : List S158, G67 l → -(l.length * 85070591730234615865843651857942052864 : Int) ≤ csum l v ∧ csum l v ≤ l.length * 85070591730234615865843651857942052864 := by
  intro l
  induction l with
  | nil => intro _; simp [csum]
  | cons x l ih =>
    intro h
    have h1 := ih (G67_tail h)
    have hx := h x (List.mem_cons_self ..)
    have h2 := mul_R64 (coef_R64 x.f0.f1 (-1) hx.2.1 hx.2.2.1 v) hx.2.2.2
    simp only [csum, List.length_cons]
    omega
theorem kS_le : ∀ l : List S158, G67 l → -(l.length * 85070591730234615865843651857942052864 : Int) ≤ kS l ∧ kS l ≤ l.length * 85070591730234615865843651857942052864 := by
  intro l
  induction l with
  | nil => intro _; simp [kS]
  | cons x l ih =>
    intro h
    have h1 := ih (G67_tail h)
    have hx := h x (List.mem_cons_self ..)
    have h2 := mul_R64 hx.1 hx.2.2.2
    simp only [kS, List.length_cons]
    omega
def fitsC (c : Nat → Int) : Bool := (List.range 64).all fun v => decide (R64 (c v))
theorem fitsC_R64 {c : Nat → Int} (h : fitsC c = true) : ∀ v, v < 64 → R64 (c v) := by
  intro v hv
  have := List.all_eq_true.1 h v (List.mem_range.2 hv)
  simpa using this
theorem filterMap_congr_ {α β : Type} (l : List α) (f g : α → Option β) (h : ∀ a ∈ l, f a = g a) : l.filterMap f = l.filterMap g := by
  induction l with
  | nil => rfl
  | cons a l ih =>
    rw [List.filterMap_cons, List.filterMap_cons, h a (List.mem_cons_self ..), ih (fun b hb => h b (List.mem_cons_of_mem _ hb))]
/-- What a sum comes to. -/
def sumR (l : List S158) : Int × List S68 × Int :=
  if R64 (kS l) ∧ fitsC (csum l) = true then (kS l, linOf (csum l) 64, 0) else (0, [], 5)
theorem fit64_R {n : Int} (h : R64 n) : fit64 n = (n, true) := by
  have h' : -9223372036854775808 ≤ n ∧ n ≤ 9223372036854775807 := h
  unfold fit64; rw [if_pos h']
theorem fit64_N {n : Int} (h : ¬ R64 n) : fit64 n = (0, false) := by
  have h' : ¬ (-9223372036854775808 ≤ n ∧ n ≤ 9223372036854775807) := h
  unfold fit64; rw [if_neg h']
theorem fit64_2 (n : Int) : (fit64 n).2 = decide (R64 n) := by
  by_cases h : R64 n
  · rw [fit64_R h, decide_eq_true h]
  · rw [fit64_N h, decide_eq_false h]
theorem sum_eq (l : List S158) (h : G67 l) (hl : l.length ≤ 9223372036854775807) : lin_sum.f l = some (sumR l) := by
  have hg : l.all goodF = true := by
    rw [List.all_eq_true]
    intro x hx
    obtain ⟨a, b, c, d⟩ := h x hx
    simp only [goodF, Bool.and_eq_true, List.all_eq_true]
    refine ⟨⟨in64_of a, in64_of d⟩, fun m hm => ?_⟩
    have := rightL_vars b m hm
    simp only [goodM, Bool.and_eq_true, decide_eq_true_eq]
    exact ⟨this, in64_of (c m hm).2⟩
  have hacc : ∀ v, v < 64 → (accs l).getD v 0 = csum l v := by
    intro v hv
    unfold accs
    rw [accs_get v l _ (by simpa using hv) (fun x hx m hm => (rightL_vars (h x hx).2.1 m hm).1)]
    have h0 : (List.replicate 64 (0:Int)).getD v 0 = 0 := by rw [List.getD_eq_getElem?_getD, List.getElem?_replicate, if_pos hv]; rfl
    rw [h0]; omega
  have hW : ∀ v, v < 64 → fit192 ((accs l).getD v 0) = fit64 (csum l v) := by
    intro v hv
    rw [hacc v hv]
    unfold fit192
    have := csum_le v l h
    rw [wrap192_id (by omega) (by omega)]
  have hK : fit192 (ksum l) = fit64 (kS l) := by
    have e : ksum l = kS l := by unfold ksum; rw [ksum_eq]; omega
    rw [e]
    unfold fit192
    have := kS_le l h
    rw [wrap192_id (by omega) (by omega)]
  have hall : ((List.range 64).all fun i => (fit192 ((accs l).getD i 0)).2) = fitsC (csum l) := by
    unfold fitsC
    rw [Bool.eq_iff_iff, List.all_eq_true, List.all_eq_true]
    constructor
    · intro hh v hv
      have := hh v hv
      rwa [hW v (List.mem_range.1 hv), fit64_2] at this
    · intro hh v hv
      have := hh v hv
      rwa [hW v (List.mem_range.1 hv), fit64_2]
  unfold lin_sum.f sumR
  rw [if_pos hg, hK, fit64_2]
  unfold sumOk
  rw [hall]
  by_cases e : R64 (kS l) ∧ fitsC (csum l) = true
  · rw [if_pos e, if_pos (by simp [e.1, e.2]), fit64_R e.1]
    congr 3
    have hc := fitsC_R64 e.2
    unfold sumOut linOf
    refine filterMap_congr_ _ _ _ fun i hi => ?_
    rw [hW i (List.mem_range.1 hi), fit64_R (hc i (List.mem_range.1 hi))]
  · rw [if_neg e, if_neg (by simp only [Bool.and_eq_true, decide_eq_true_eq]; exact e)]
/-- The forms, each with its number of times. -/
def zipS (l0 : List S62) (l1 : List Int) : List S158 := List.zipWith (fun q b => ⟨q, b⟩) l0 l1
theorem zipS_G67 {l0 : List S62} {l1 : List Int} (h0 : ∀ q ∈ l0, R64 q.f0 ∧ M64 q.f1) (hr : l0.all (fun q => rightL (-1) q.f1) = true) (h1 : I64 l1) : G67 (zipS l0 l1) := by
  intro x hx
  obtain ⟨i, hi, he⟩ := List.getElem_of_mem hx
  unfold zipS at he hi
  rw [List.getElem_zipWith] at he
  subst he
  simp only [List.length_zipWith] at hi
  have a0 : l0[i]'(by omega) ∈ l0 := List.getElem_mem _
  have a1 : l1[i]'(by omega) ∈ l1 := List.getElem_mem _
  exact ⟨(h0 _ a0).1, List.all_eq_true.1 hr _ a0, (h0 _ a0).2, h1 _ a1⟩
def sumD (l0 : List S62) (l1 : List Int) : Int × List S68 × Int :=
  if l0.all (fun q => rightL (-1) q.f1) = true ∧ l0.length = l1.length then sumR (zipS l0 l1) else (0, [], 1)
theorem linSum_l0 (l0 : List S62) (l1 : List Int) (hG : G67 (zipS l0 l1)) (he : l0.length = l1.length) (hlen : l0.length ≤ 1000000) : ∀ (d i : Nat) (acc : List S158), l0.length - i = d → i ≤ l0.length → acc = (zipS l0 l1).take i →
    Ev (fun k => lin_Sum.l0 k l1 acc l0 (l0.length:Int) i) (sumR (zipS l0 l1)) := by
  have hzl : (zipS l0 l1).length = l0.length := by simp [zipS, he]
  intro d
  induction d with
  | zero =>
    intro i acc h1 h2 hacc
    refine Ev.succ (Ev.now fun k => ?_)
    simp only [lin_Sum.l0]
    rw [if_neg (by omega), hacc, List.take_of_length_le (by omega), sum_eq _ hG (by omega)]; rfl
  | succ d ih =>
    intro i acc h1 h2 hacc
    have hi : i < l0.length := by omega
    refine Ev.succ (Ev.of (ih (i+1) (acc ++ [⟨l0[i], l1[i]'(by omega)⟩]) (by omega) (by omega) ?_) fun k => ?_)
    · rw [hacc, List.take_succ_eq_append_getElem (by omega)]
      simp [zipS]
    · have hal : acc.length ≤ 1000000 := by rw [hacc]; simp; omega
      simp only [lin_Sum.l0]
      rw [if_pos (by omega), if_pos (by omega), if_pos (by omega), if_pos (by omega), if_pos (by omega), rdQ_at l0 i hi, rd_at l1 i (by omega), w64 (by omega) (by omega)]; rfl
theorem linSum_ev (l0 : List S62) (l1 : List Int) (h0 : ∀ q ∈ l0, R64 q.f0 ∧ M64 q.f1 ∧ q.f1.length ≤ 9223372036854775807) (h1 : I64 l1) (hlen : l0.length ≤ 1000000) :
    Ev (fun k => lin_Sum.f k l0 l1) (sumD l0 l1) := by
  refine Ev.bind (linright_ev l0 (by omega) (fun q hq => (h0 q hq).2.2)) ?_
  unfold sumD
  by_cases e : l0.all (fun q => rightL (-1) q.f1) = true
  · refine Ev.pos e ?_
    by_cases e2 : l0.length = l1.length
    · rw [if_pos ⟨e, e2⟩]
      refine Ev.succ (Ev.of (linSum_l0 l0 l1 (zipS_G67 (fun q hq => ⟨(h0 q hq).1, (h0 q hq).2.1⟩) e h1) e2 hlen _ 0 [] rfl (by omega) (by simp)) fun k => ?_)
      simp only [lin_Sum.j0]
      rw [if_neg (by simp; omega)]; rfl
    · rw [if_neg (fun h => e2 h.2)]
      refine Ev.succ (Ev.now fun k => ?_)
      simp only [lin_Sum.j0]
      rw [if_pos (by simp; omega)]
  · rw [if_neg (fun h => e h.1)]
    refine Ev.neg e (Ev.succ (Ev.now fun k => ?_))
    simp only [lin_Sum.j0, if_true]
theorem sumR_fine (l : List S158) : R64 (sumR l).1 ∧ M64 (sumR l).2.1 ∧ (sumR l).2.1.length ≤ 64 ∧ rightL (-1) (sumR l).2.1 = true := by
  unfold sumR
  by_cases e : R64 (kS l) ∧ fitsC (csum l) = true
  · rw [if_pos e]
    exact ⟨e.1, linOf_M64 _ 64 (Nat.le_refl _) (fitsC_R64 e.2), linOf_len _ 64, linOf_right _ 64 (Nat.le_refl _)⟩
  · rw [if_neg e]
    refine ⟨⟨by simp, by simp⟩, ?_, by simp, rfl⟩
    intro m hm
    cases hm
/-- A variable's value, 0 where none is told. -/
def xv (x : List Int) (v : Nat) : Int := if (v : Int) < (x.length : Int) then rd x v else 0
/-- The monomials' value. -/
def valL (l : List S68) (x : List Int) : Int := l.foldl (evalStep x) 0
theorem valL_cons (m : S68) (l : List S68) (x : List Int) (h0 : 0 ≤ m.f0) : valL (m :: l) x = m.f1 * xv x m.f0.toNat + valL l x := by
  unfold valL
  rw [List.foldl_cons, evalFold_add]
  congr 1
  unfold evalStep xv
  rw [show ((m.f0.toNat : Nat) : Int) = m.f0 by omega]
  split <;> simp
theorem valL_append (a b : List S68) (x : List Int) : valL (a ++ b) x = valL a x + valL b x := by
  unfold valL
  rw [List.foldl_append, evalFold_add x b]
theorem evalSum_val (K : Int) (l : List S68) (x : List Int) : evalSum K l x = K + valL l x := evalSum_eq K l x
theorem valL_sg (x : List Int) : ∀ (l : List S68), (∀ m ∈ l, 0 ≤ m.f0 ∧ m.f0 < 64) → valL l x = sg 64 (fun v => coef l v * xv x v) := by
  intro l
  induction l with
  | nil => intro _; simp only [coef, Int.zero_mul, sg_zero]; rfl
  | cons m l ih =>
    intro h
    have hm := h m (List.mem_cons_self ..)
    rw [valL_cons m l x hm.1, ih (fun a ha => h a (List.mem_cons_of_mem _ ha))]
    simp only [coef, Int.add_mul]
    rw [sg_add]
    congr 1
    rw [sg_congr (g := fun i => if m.f0.toNat = i then m.f1 * xv x m.f0.toNat else 0) (fun i hi => ?_), sg_one 64 _ (by omega)]
    by_cases e : m.f0.toNat = i
    · rw [if_pos e, if_pos (by omega), e]
    · rw [if_neg e, if_neg (by omega), Int.zero_mul]
theorem linOf_val (c : Nat → Int) (x : List Int) : ∀ n, valL (linOf c n) x = sg n (fun v => c v * xv x v) := by
  intro n
  induction n with
  | zero => rfl
  | succ n ih =>
    rw [linOf_succ, valL_append, ih]
    simp only [sg]
    congr 1
    by_cases e : c n = 0
    · rw [if_pos e, e, Int.zero_mul]; rfl
    · rw [if_neg e, valL_cons _ _ _ (by simp only; omega)]
      simp [valL]
/-- The value of a sum. -/
def vS (x : List Int) : List S158 → Int
  | [] => 0
  | y :: l => (y.f0.f0 + valL y.f0.f1 x) * y.f1 + vS x l
theorem vS_eq (x : List Int) : ∀ l : List S158, G67 l → vS x l = kS l + sg 64 (fun v => csum l v * xv x v) := by
  intro l
  induction l with
  | nil => intro _; simp only [vS, kS, csum, Int.zero_mul, sg_zero]; rfl
  | cons y l ih =>
    intro h
    have hy := h y (List.mem_cons_self ..)
    simp only [vS, kS, csum]
    rw [ih (G67_tail h), valL_sg x y.f0.f1 (rightL_vars hy.2.1), Int.add_mul]
    rw [sg_congr (f := fun v => (coef y.f0.f1 v * y.f1 + csum l v) * xv x v) (g := fun v => coef y.f0.f1 v * xv x v * y.f1 + csum l v * xv x v) (fun i _ => by rw [Int.add_mul, Int.mul_assoc, Int.mul_comm y.f1, ← Int.mul_assoc]), sg_add, sg_mul]
    omega
theorem sumR_val (x : List Int) (l : List S158) (h : G67 l) (ho : (sumR l).2.2 = 0) : (sumR l).1 + valL (sumR l).2.1 x = vS x l := by
  unfold sumR at ho ⊢
  by_cases e : R64 (kS l) ∧ fitsC (csum l) = true
  · rw [if_pos e]
    simp only
    rw [linOf_val, vS_eq x l h]
  · rw [if_neg e] at ho; simp at ho
theorem Scale_ev (K : Int) (l : List S68) (c : Int) (hK : R64 K) (hl : M64 l) (hc : R64 c) (hlen : l.length ≤ 9223372036854775807) : Ev (fun k => lin_Scale.f k K l c) (sumD [⟨K, l⟩] [c]) := by
  refine Ev.bind (linSum_ev _ _ (by intro q hq; simp at hq; subst hq; exact ⟨hK, hl, hlen⟩) (by intro y hy; simp at hy; subst hy; exact hc) (by simp)) (Ev.now fun _ => rfl)
theorem sumD_right {l0 : List S62} {l1 : List Int} (hr : l0.all (fun q => rightL (-1) q.f1) = true) (he : l0.length = l1.length) : sumD l0 l1 = sumR (zipS l0 l1) := by
  unfold sumD; rw [if_pos ⟨hr, he⟩]
theorem hiW_small {p : Int} (h1 : -85070591730234615865843651857942052864 ≤ p) (h2 : p ≤ 85070591730234615865843651857942052864) : hiW p = p / 18446744073709551616 := by
  unfold hiW; exact w64 (by omega) (by omega)
def fitR (s : Int) : Int × Bool := if R64 s then (s, true) else (0, false)
theorem fitI_R (s : Int) : fitI s = fitR s := rfl
/-- How many times a variable stands in a form: what is met first. -/
def coefI : List S68 → Int → Int
  | [], _ => 0
  | m :: l, v => if m.f0 = v then m.f1 else coefI l v
theorem coefI_coef : ∀ (l : List S68) (last : Int), rightL last l = true → -1 ≤ last → ∀ v : Nat, coefI l v = coef l v := by
  intro l
  induction l with
  | nil => intro _ _ _ v; rfl
  | cons m l ih =>
    intro last h hl v
    have hr := h
    simp only [rightL, Bool.and_eq_true, decide_eq_true_eq] at h
    simp only [coefI, coef]
    by_cases e : m.f0 = (v : Int)
    · rw [if_pos e, if_pos e, coef_none l m.f0 h.2 v (by omega), Int.add_zero]
    · rw [if_neg e, if_neg e, Int.zero_add]; exact ih m.f0 h.2 (by omega) v
theorem right27_l0 (K : Int) (l : List S68) (hl : l.length ≤ 9223372036854775807) : ∀ (d i : Nat) (last : Int), l.length - i = d → i ≤ l.length →
    Ev (fun k => sequiturref27_Right.l0 k last i K l) (if rightL last (l.drop i) = true then 0 else 1) := by
  intro d
  induction d with
  | zero =>
    intro i last h1 h2
    refine Ev.succ (Ev.now fun k => ?_)
    simp only [sequiturref27_Right.l0]
    rw [if_neg (by omega), List.drop_eq_nil_of_le (by omega)]; rfl
  | succ d ih =>
    intro i last h1 h2
    have hi : i < l.length := by omega
    rw [List.drop_eq_getElem_cons hi]
    by_cases e : last < l[i].f0 ∧ l[i].f0 < 64 ∧ l[i].f1 ≠ 0
    · obtain ⟨e1, e2, e3⟩ := e
      refine Ev.succ (Ev.of (ih (i+1) l[i].f0 (by omega) (by omega)) fun k => ?_) |>.val ?_
      · simp only [sequiturref27_Right.l0]
        rw [if_pos (by omega), if_pos (by omega), rdM_at l i hi, if_neg (by omega), if_neg (by omega), if_neg e3, w64 (by omega) (by omega)]; rfl
      · simp only [rightL, decide_eq_true e1, decide_eq_true e2, decide_eq_true e3, Bool.true_and]
    · refine Ev.succ (Ev.now fun k => ?_)
      have hr : rightL last (l[i] :: l.drop (i+1)) = false := by
        simp only [rightL, Bool.and_eq_false_iff, decide_eq_false_iff_not]
        omega
      rw [hr]
      simp only [sequiturref27_Right.l0]
      rw [if_pos (by omega), if_pos (by omega), rdM_at l i hi]
      by_cases e1 : l[i].f0 ≤ last
      · rw [if_pos e1]; rfl
      by_cases e2 : l[i].f0 ≥ 64
      · rw [if_neg e1, if_pos e2]; rfl
      · rw [if_neg e1, if_neg e2, if_pos (by omega)]; rfl
theorem right27_ev (K : Int) (l : List S68) (hl : l.length ≤ 9223372036854775807) : Ev (fun k => sequiturref27_Right.f k K l) (if rightL (-1) l = true then 0 else 1) := by
  have := right27_l0 K l hl _ 0 (-1) rfl (by omega)
  exact this
/-- A total: its upper and its lower sum, and what it comes to. -/
def tv (H L : Int) : Int := H * 18446744073709551616 + L
theorem More27_ev (H L : Int) {a b : Int} (ha : R64 a) (hb : R64 b) : Ev (fun k => sequiturref27_More.f k (hiW H) (loW H) (hiW L) (loW L) a b) (hiW (H + a * b / 18446744073709551616), loW (H + a * b / 18446744073709551616), hiW (L + a * b % 18446744073709551616), loW (L + a * b % 18446744073709551616)) := by
  have hp := mul_R64 ha hb
  have ht : Ev (fun k => sequiturref01_Times.f k a b) (hiW (a * b), loW (a * b)) := Times_ev ha.1 ha.2 hb.1 hb.2
  refine Ev.bind ht (Ev.now fun k => ?_)
  generalize a * b = p at *
  simp only
  rw [hiW_small hp.1 hp.2, Of_eq (by omega) (by omega)]
  simp only [Option.bind_some]
  rw [Plus_eq]
  simp only [Option.bind_some]
  have e0 : (0 : Int) = hiW (p % 18446744073709551616) := by unfold hiW wrap64; omega
  have e1 : loW p = loW (p % 18446744073709551616) := by unfold loW; omega
  rw [e1]
  have := Plus_eq L (p % 18446744073709551616)
  rw [← e0] at this
  rw [this]; rfl
theorem TFits27_eq {H L : Int} (h1 : -1000000000000000000000000000 ≤ H) (h2 : H ≤ 1000000000000000000000000000) (h3 : 0 ≤ L) (h4 : L ≤ 1000000000000000000000000000) : sequiturref27_Fits.f (hiW H) (loW H) (hiW L) (loW L) = some (fitR (tv H L)) := by
  unfold sequiturref27_Fits.f
  have hc : hiW L = L / 18446744073709551616 := by unfold hiW; rw [w64 (by omega) (by omega)]
  rw [hc, Of_eq (by omega) (by omega)]
  simp only [Option.bind_some]
  rw [Plus_eq]
  simp only [Option.bind_some]
  rw [Fits_eq _ (by omega) (by omega), fitI_R]
  simp only [Option.bind_some]
  have ht : H + L / 18446744073709551616 = tv H L / 18446744073709551616 := by unfold tv; omega
  have hm : loW L = loW (tv H L) := by unfold loW tv; omega
  have hb1 : -3138550867693340381917894711603833208051177722232017256448 ≤ tv H L := by unfold tv; omega
  have hb2 : tv H L < 3138550867693340381917894711603833208051177722232017256448 := by unfold tv; omega
  rw [ht, hm]
  generalize tv H L = s at *
  unfold fitR
  by_cases e : R64 (s / 18446744073709551616)
  · rw [if_pos e]
    simp only [if_true]
    have e1 := e.1
    have e2 := e.2
    have hh : s / 18446744073709551616 = hiW s := by unfold hiW; rw [w64 (by omega) (by omega)]
    rw [hh, Fits_eq s (by omega) (by omega), fitI_R]
    rfl
  · rw [if_neg e]
    simp only [Bool.false_eq_true, if_false]
    rw [if_neg (fun h : R64 s => e (by have := h.1; have := h.2; exact ⟨by omega, by omega⟩))]
/-- What a place of a sum comes to: -1 the constant's, else the variable's. -/
def pt (v : Int) (q : S62) : Int := if v < 0 then q.f0 else coefI q.f1 v
def ps (v : Int) : List S158 → Int
  | [] => 0
  | x :: l => pt v x.f0 * x.f1 + ps v l
theorem coefI_R64 : ∀ (l : List S68) (v : Int), M64 l → R64 (coefI l v) := by
  intro l v
  induction l with
  | nil => intro _; exact ⟨by simp [coefI], by simp [coefI]⟩
  | cons m l ih =>
    intro hM
    simp only [coefI]
    split
    · exact (hM m (List.mem_cons_self ..)).2
    · exact ih (fun a ha => hM a (List.mem_cons_of_mem _ ha))
theorem st_tv {H L p r t : Int} (h : tv H L + (p + r) = t) : tv (H + p / 18446744073709551616) (L + p % 18446744073709551616) + r = t := by unfold tv at *; omega
theorem st_lo {i H p : Int} (b : -(i * 9223372036854775808) ≤ H) (hp : -85070591730234615865843651857942052864 ≤ p) : -((i + 1) * 9223372036854775808) ≤ H + p / 18446744073709551616 := by omega
theorem st_hi {i H p : Int} (b : H ≤ i * 9223372036854775808) (hp : p ≤ 85070591730234615865843651857942052864) : H + p / 18446744073709551616 ≤ (i + 1) * 9223372036854775808 := by omega
theorem st_nn {L p : Int} (b : 0 ≤ L) : 0 ≤ L + p % 18446744073709551616 := by omega
theorem st_up {i L p : Int} (b : L ≤ i * 18446744073709551616) : L + p % 18446744073709551616 ≤ (i + 1) * 18446744073709551616 := by omega
theorem linBy_l0 (l : List S68) (v : Int) (hlen : l.length ≤ 9223372036854775807) : ∀ (n i : Nat), l.length - i = n → i ≤ l.length → Ev (fun k => lin_By.l0 k v l (l.length : Int) i) (coefI (l.drop i) v) := by
  intro n
  induction n with
  | zero =>
    intro i h1 h2
    refine Ev.succ (Ev.now fun k => ?_)
    simp only [lin_By.l0]
    rw [if_neg (by omega), List.drop_eq_nil_of_le (by omega)]; rfl
  | succ n ih =>
    intro i h1 h2
    have hi : i < l.length := by omega
    rw [List.drop_eq_getElem_cons hi]
    by_cases e : l[i].f0 = v
    · refine Ev.succ (Ev.now fun k => ?_)
      simp only [lin_By.l0, coefI]
      rw [if_pos (by omega), if_pos (by omega), if_pos (by omega), rdM_at l i hi, if_pos e, if_pos e]
    · refine (Ev.succ (Ev.of (ih (i+1) (by omega) (by omega)) fun k => ?_)).val ?_
      · simp only [lin_By.l0]
        rw [if_pos (by omega), if_pos (by omega), if_pos (by omega), rdM_at l i hi, if_neg e, w64 (by omega) (by omega)]; rfl
      · simp only [coefI]; rw [if_neg e]
theorem linBy_ev (K : Int) (l : List S68) (v : Int) (hlen : l.length ≤ 9223372036854775807) : Ev (fun k => lin_By.f k K l v) (coefI l v) := by
  have := linBy_l0 l v hlen _ 0 rfl (by omega)
  exact this
def cf (v : Int) (q : S70) : Int := coefI q.f0.f1 v
def okI (q : S70) : Bool := !q.f1 && rightL (-1) q.f0.f1
def wrongB (l : List S70) (v : Int) : Bool := decide (v < 0) || decide (v ≥ 64) || !(l.all okI)
theorem wrong1_ev (K : Int) (l : List S68) (b : Bool) (hlen : l.length ≤ 9223372036854775807) : Ev (fun k => shadow_wrong_1.f k K l b) (!okI ⟨⟨K, l⟩, b⟩) := by
  cases b
  · refine Ev.neg (by simp) (Ev.bind (iRight_ev K l false hlen) (Ev.now fun _ => ?_))
    unfold okI
    by_cases e : rightL (-1) l = true
    · simp [e]
    · simp [e]
  · exact Ev.pos rfl (Ev.now fun _ => rfl)
theorem idx30_l0 (l : List S70) (hl : l.length ≤ 1000000) (hm : ∀ q ∈ l, q.f0.f1.length ≤ 9223372036854775807) : ∀ (d i : Nat), l.length - i = d → i ≤ l.length →
    ∃ v, Ev (fun k => api_Ineq_104.l0 k l (l.length:Int) i) v ∧ decide (v ≥ 0) = !((l.drop i).all okI) := by
  intro d
  induction d with
  | zero =>
    intro i h1 h2
    refine ⟨-1, Ev.succ (Ev.now fun k => ?_), ?_⟩
    · simp only [api_Ineq_104.l0]
      rw [if_neg (by omega)]
    · rw [List.drop_eq_nil_of_le (by omega)]; rfl
  | succ d ih =>
    intro i h1 h2
    have hi : i < l.length := by omega
    rw [List.drop_eq_getElem_cons hi]
    have hq := wrong1_ev l[i].f0.f0 l[i].f0.f1 l[i].f1 (hm _ (List.getElem_mem hi))
    obtain ⟨v, ev, hv⟩ := ih (i+1) (by omega) (by omega)
    have hs : ∀ k, api_Ineq_104.l0 (k+1) l (l.length:Int) i = (shadow_wrong_1.f k l[i].f0.f0 l[i].f0.f1 l[i].f1).bind fun t => if t = true then some (i:Int) else api_Ineq_104.l0 k l (l.length:Int) ((i+1 : Nat) : Int) := by
      intro k
      simp only [api_Ineq_104.l0]
      rw [if_pos (by omega), if_pos (by omega), if_pos (by omega), rdI_at l i hi, w64 (by omega) (by omega)]; rfl
    by_cases e : okI l[i] = true
    · rw [show (⟨⟨l[i].f0.f0, l[i].f0.f1⟩, l[i].f1⟩ : S70) = l[i] from rfl, e] at hq
      refine ⟨v, Ev.succ (Ev.of (Ev.bind hq ?_) hs), ?_⟩
      · exact Ev.of ev fun k => by simp
      · rw [hv, List.all_cons, e, Bool.true_and]
    · have e' : okI l[i] = false := by simpa using e
      rw [show (⟨⟨l[i].f0.f0, l[i].f0.f1⟩, l[i].f1⟩ : S70) = l[i] from rfl, e'] at hq
      refine ⟨i, Ev.succ (Ev.of (Ev.bind hq ?_) hs), ?_⟩
      · exact Ev.now fun k => by simp
      · rw [List.all_cons, e']; simp
theorem wrong_ev (l : List S70) (v : Int) (hl : l.length ≤ 1000000) (hm : ∀ q ∈ l, q.f0.f1.length ≤ 9223372036854775807) : Ev (fun k => shadow_wrong.f k l v) (wrongB l v) := by
  unfold wrongB
  by_cases a : v < 0
  · exact Ev.pos a (Ev.now fun _ => by rw [decide_eq_true a]; rfl)
  by_cases b : v ≥ 64
  · exact Ev.neg a (Ev.pos b (Ev.now fun _ => by rw [decide_eq_true b]; simp))
  refine Ev.neg a (Ev.neg b ?_)
  obtain ⟨u, ev, hu⟩ := idx30_l0 l hl hm _ 0 rfl (by omega)
  rw [List.drop_zero] at hu
  rw [decide_eq_false a, decide_eq_false b, Bool.false_or, Bool.false_or]
  exact Ev.bind (v := !(l.all okI)) (Ev.bind ev (Ev.now fun _ => by rw [hu])) (Ev.now fun _ => rfl)
theorem wrongB_not {l : List S70} {v : Int} (h : wrongB l v = false) : 0 ≤ v ∧ v < 64 ∧ ∀ q ∈ l, q.f1 = false ∧ rightL (-1) q.f0.f1 = true := by
  unfold wrongB at h
  simp only [Bool.or_eq_false_iff, decide_eq_false_iff_not, Bool.not_eq_false', List.all_eq_true] at h
  refine ⟨by omega, by omega, fun q hq => ?_⟩
  have := h.2 q hq
  unfold okI at this
  simpa using this
/-- Does a sign fit? -/
def sgD (s n : Int) : Bool := (decide (n < 0) && decide (s < 0)) || (decide (n > 0) && decide (s > 0)) || (decide (n = 0) && decide (s = 0))
/-- The places of those whose sign fits. -/
def bnd (s v : Int) : List S70 → Int → List Int
  | [], _ => []
  | q :: l, i => if sgD s (cf v q) = true then i :: bnd s v l (i + 1) else bnd s v l (i + 1)
theorem bnd_len (s v : Int) : ∀ (l : List S70) (i : Int), (bnd s v l i).length ≤ l.length := by
  intro l
  induction l with
  | nil => intro i; simp [bnd]
  | cons q l ih =>
    intro i
    simp only [bnd]
    have := ih (i + 1)
    split <;> simp <;> omega
theorem bnd_mem (s v : Int) : ∀ (l : List S70) (i : Int), ∀ j ∈ bnd s v l i, i ≤ j ∧ j < i + l.length ∧ ∃ h : (j - i).toNat < l.length, sgD s (cf v (l[(j - i).toNat]'h)) = true := by
  intro l
  induction l with
  | nil => intro i j hj; simp [bnd] at hj
  | cons q l ih =>
    intro i j hj
    simp only [bnd] at hj
    have key : j ∈ bnd s v l (i + 1) → i ≤ j ∧ j < i + (q :: l).length ∧ ∃ h : (j - i).toNat < (q :: l).length, sgD s (cf v ((q :: l)[(j - i).toNat]'h)) = true := by
      intro hj
      obtain ⟨h1, h2, h3, h4⟩ := ih (i + 1) j hj
      refine ⟨by omega, by simp; omega, by simp; omega, ?_⟩
      have e : (j - i).toNat = (j - (i + 1)).toNat + 1 := by omega
      simp only [e, List.getElem_cons_succ]
      exact h4
    split at hj
    · rename_i hc
      rcases List.mem_cons.1 hj with rfl | hj
      · refine ⟨by omega, by simp; omega, by simp, ?_⟩
        simpa using hc
      · exact key hj
    · exact key hj
theorem bnd_if {α : Type} (t s : Int) (X Y : α) : (if t < 0 then (if s < 0 then X else (if t > 0 then (if s > 0 then X else (if t = 0 then (if s = 0 then X else Y) else Y)) else (if t = 0 then (if s = 0 then X else Y) else Y))) else (if t > 0 then (if s > 0 then X else (if t = 0 then (if s = 0 then X else Y) else Y)) else (if t = 0 then (if s = 0 then X else Y) else Y))) = if sgD s t = true then X else Y := by
  have e : sgD s t = true ↔ (t < 0 ∧ s < 0) ∨ (t > 0 ∧ s > 0) ∨ (t = 0 ∧ s = 0) := by
    unfold sgD
    simp only [Bool.or_eq_true, Bool.and_eq_true, decide_eq_true_eq, or_assoc]
  by_cases h : sgD s t = true
  · rw [if_pos h]
    rw [e] at h
    rcases h with ⟨a, b⟩ | ⟨a, b⟩ | ⟨a, b⟩
    · rw [if_pos a, if_pos b]
    · rw [if_neg (by omega), if_pos a, if_pos b]
    · rw [if_neg (by omega), if_neg (by omega), if_pos a, if_pos b]
  · rw [if_neg h]
    rw [e] at h
    by_cases a : t < 0
    · rw [if_pos a, if_neg (by omega), if_neg (by omega), if_neg (by omega)]
    · rw [if_neg a]
      by_cases b : t > 0
      · rw [if_pos b, if_neg (by omega), if_neg (by omega)]
      · rw [if_neg b, if_pos (by omega), if_neg (by omega)]
theorem bounds_l0 (s : Int) (l : List S70) (v : Int) (hl : l.length ≤ 1000000) (hm : ∀ q ∈ l, q.f0.f1.length ≤ 9223372036854775807) : ∀ (d i : Nat) (acc : List Int), l.length - i = d → i ≤ l.length → acc.length ≤ i →
    Ev (fun k => shadow_bounds_1.l0 k s acc l (l.length : Int) i v) (acc ++ bnd s v (l.drop i) i) := by
  intro d
  induction d with
  | zero =>
    intro i acc h1 h2 ha
    rw [List.drop_eq_nil_of_le (by omega)]
    refine Ev.succ ?_
    simp only [shadow_bounds_1.l0]
    exact Ev.neg (by omega) (Ev.now fun _ => by simp [bnd])
  | succ d ih =>
    intro i acc h1 h2 ha
    have hi : i < l.length := by omega
    rw [List.drop_eq_getElem_cons hi]
    have hb := linBy_ev l[i].f0.f0 l[i].f0.f1 v (hm _ (List.getElem_mem hi))
    have hs : ∀ k, shadow_bounds_1.l0 (k+1) s acc l (l.length:Int) i v = (lin_By.f k l[i].f0.f0 l[i].f0.f1 v).bind fun t => if sgD s t = true then shadow_bounds_1.l0 k s (acc ++ [(i:Int)]) l (l.length:Int) ((i+1 : Nat) : Int) v else shadow_bounds_1.l0 k s acc l (l.length:Int) ((i+1 : Nat) : Int) v := by
      intro k
      simp only [shadow_bounds_1.l0]
      rw [if_pos (by omega), if_pos (by omega), if_pos (by omega), rdI_at l i hi, show wrap64 ((i:Int) + 1) = ((i+1 : Nat) : Int) by rw [w64 (by omega) (by omega)]; omega]
      congr 1
      funext t
      rw [if_pos (show acc.length < 17592186044416 by omega)]
      exact bnd_if t s _ _
    refine Ev.succ (Ev.of (Ev.bind hb ?_) hs)
    simp only [bnd]
    by_cases c : sgD s (cf v l[i]) = true
    · rw [if_pos c]
      refine Ev.pos c ((ih (i+1) (acc ++ [(i:Int)]) (by omega) (by omega) (by simp; omega)).val ?_)
      rw [List.append_assoc]; rfl
    · rw [if_neg c]
      refine Ev.neg c ((ih (i+1) acc (by omega) (by omega) (by omega)).val ?_)
      rfl
theorem bounds_ev (s : Int) (l : List S70) (v : Int) (hl : l.length ≤ 1000000) (hm : ∀ q ∈ l, q.f0.f1.length ≤ 9223372036854775807) : Ev (fun k => shadow_bounds_1.f k s l v) (bnd s v l 0) := by
  have := bounds_l0 s l v hl hm _ 0 [] rfl (by omega) (by simp)
  exact this
theorem long30_l0 (l : List S70) (hl : l.length ≤ 1000000) : ∀ (d i : Nat), l.length - i = d → i ≤ l.length → Ev (fun k => sequiturref30_Long.l0 k l i) (!((l.drop i).all fun q => decide (q.f0.f1.length ≤ 70))) := by
  intro d
  induction d with
  | zero =>
    intro i h1 h2
    refine Ev.succ (Ev.now fun k => ?_)
    simp only [sequiturref30_Long.l0]
    rw [if_neg (by omega), List.drop_eq_nil_of_le (by omega)]; rfl
  | succ d ih =>
    intro i h1 h2
    have hi : i < l.length := by omega
    rw [List.drop_eq_getElem_cons hi, List.all_cons]
    refine Ev.succ ?_
    simp only [sequiturref30_Long.l0]
    rw [rdI_at l i hi]
    refine Ev.pos (by omega) (Ev.pos (by omega) ?_)
    by_cases e : l[i].f0.f1.length ≤ 70
    · refine Ev.neg (by omega) (((ih (i+1) (by omega) (by omega)).of fun k => ?_).val ?_)
      · rw [w64 (by omega) (by omega)]; rfl
      · rw [decide_eq_true e, Bool.true_and]
    · refine Ev.pos (by omega) (Ev.now fun _ => ?_)
      rw [decide_eq_false e]; rfl
def longI (l : List S70) (n : Int) : Bool := decide ((l.length : Int) > n) || !(l.all fun q => decide (q.f0.f1.length ≤ 70))
theorem long30_ev (l : List S70) (n : Int) (hn : n ≤ 1000000) : Ev (fun k => sequiturref30_Long.f k l n) (longI l n) := by
  unfold longI
  by_cases e : (l.length : Int) > n
  · refine Ev.pos e (Ev.now fun _ => ?_)
    rw [decide_eq_true e]; rfl
  · refine Ev.neg e ((long30_l0 l (by omega) _ 0 rfl (by omega)).val ?_)
    rw [decide_eq_false e, List.drop_zero, Bool.false_or]
theorem longI_not {l : List S70} {n : Int} (h : longI l n = false) : (l.length : Int) ≤ n ∧ ∀ q ∈ l, q.f0.f1.length ≤ 70 := by
  unfold longI at h
  rw [Bool.or_eq_false_iff] at h
  refine ⟨by simpa using h.1, fun q hq => ?_⟩
  have h2 : (l.all fun q => decide (q.f0.f1.length ≤ 70)) = true := by simpa using h.2
  simpa using List.all_eq_true.1 h2 q hq
theorem alive30_ev : Ev (fun k => sequiturlaw30_alive.f k) true := Ev.mono 200 sequiturlaw30_alive.mono (by decide +kernel)
theorem told_eq (n : Int) (b : Bool) : num_told.f n b = some (if b = true then (n, true) else (0, false)) := by
  unfold num_told.f; split <;> rfl
theorem Sub_eq {a b : Int} (h1 : -9223372036854775808 ≤ a) (h2 : a ≤ 9223372036854775807) (h3 : -9223372036854775808 ≤ b) (h4 : b ≤ 9223372036854775807) :
    num_Sub.f a b = some (fitI (a - b)) := by
  unfold num_Sub.f
  rw [told_eq]
  simp only [Option.bind_some]
  congr 1
  unfold fitI
  by_cases h : -9223372036854775808 ≤ a - b ∧ a - b ≤ 9223372036854775807
  · rw [w64 h.1 h.2, if_pos h, show decide (a - b < a) = decide (b > 0) by rw [decide_eq_decide]; omega]; simp
  · rw [if_neg h]
    have : (decide (wrap64 (a - b) < a) == decide (b > 0)) = false := by
      rw [beq_eq_false_iff_ne, Ne, decide_eq_decide]; unfold wrap64; omega
    rw [this]; rfl
theorem eval27_l0 (x : List Int) (hx : I64 x) (K : Int) (l : List S68) (hl : M64 l) (hr : rightL (-1) l = true) (hlen : l.length ≤ 1000000) (V : Int) : ∀ (n i : Nat) (H L : Int), l.length - i = n → i ≤ l.length → tv H L + valL (l.drop i) x = V →
    -((i + 1 : Nat) * 9223372036854775808 : Int) ≤ H → H ≤ (i + 1 : Nat) * 9223372036854775808 → 0 ≤ L → L ≤ (i + 1 : Nat) * 18446744073709551616 →
    Ev (fun k => sequiturref27_Eval.l0 k x i K l (hiW H) (loW H) (hiW L) (loW L)) (if (fitR V).2 = true then ((fitR V).1, 0) else (0, 5)) := by
  intro n
  induction n with
  | zero =>
    intro i H L h1 h2 hs b1 b2 b3 b4
    rw [List.drop_eq_nil_of_le (by omega), show valL [] x = 0 from rfl, Int.add_zero] at hs
    have hi6 : ((i + 1 : Nat) : Int) ≤ 1000001 := by omega
    have q1 : -1000000000000000000000000000 ≤ H := by
      have : ((i + 1 : Nat) : Int) * 9223372036854775808 ≤ 1000001 * 9223372036854775808 := Int.mul_le_mul_of_nonneg_right hi6 (by decide)
      exact Int.le_trans (Int.le_trans (by decide) (Int.neg_le_neg this)) b1
    have q2 : H ≤ 1000000000000000000000000000 := by
      have : ((i + 1 : Nat) : Int) * 9223372036854775808 ≤ 1000001 * 9223372036854775808 := Int.mul_le_mul_of_nonneg_right hi6 (by decide)
      exact Int.le_trans b2 (Int.le_trans this (by decide))
    have q4 : L ≤ 1000000000000000000000000000 := by
      have : ((i + 1 : Nat) : Int) * 18446744073709551616 ≤ 1000001 * 18446744073709551616 := Int.mul_le_mul_of_nonneg_right hi6 (by decide)
      exact Int.le_trans b4 (Int.le_trans this (by decide))
    have hf : sequiturref27_Fits.f (hiW H) (loW H) (hiW L) (loW L) = some (fitR (tv H L)) := TFits27_eq q1 q2 b3 q4
    have n1 : ¬ (i : Int) < (l.length : Int) := by clear b1 b2 b3 b4 q1 q2 q4 hf hs; omega
    clear b1 b2 b3 b4 q1 q2 q4
    rw [hs] at hf
    refine Ev.succ (Ev.now fun k => ?_)
    simp only [sequiturref27_Eval.l0]
    rw [if_neg n1, hf]
    simp only [Option.bind_some]
    by_cases c : (fitR V).2 = true
    · rw [if_pos c, if_pos c]
    · rw [if_neg c, if_neg c]
  | succ n ih =>
    intro i H L h1 h2 hs b1 b2 b3 b4
    have hi : i < l.length := by clear b1 b2 b3 b4 hs; omega
    have n1 : (i : Int) < (l.length : Int) := by clear b1 b2 b3 b4 hs; omega
    have n2 : (0 : Int) ≤ (i : Int) := Int.natCast_nonneg i
    have hw : wrap64 ((i:Int) + 1) = ((i+1 : Nat) : Int) := by clear b1 b2 b3 b4 hs; rw [w64 (by omega) (by omega)]; omega
    have hm := rightL_mem l (-1) hr _ (List.getElem_mem hi)
    have h00 : 0 ≤ l[i].f0 := by clear b1 b2 b3 b4 hs; omega
    rw [List.drop_eq_getElem_cons hi, valL_cons _ _ x h00] at hs
    have hi2 : ((i + 1 + 1 : Nat) : Int) = ((i + 1 : Nat) : Int) + 1 := by simp
    have nn : l.length - (i + 1) = n := by clear b1 b2 b3 b4 hs; omega
    have nl : i + 1 ≤ l.length := hi
    by_cases c : l[i].f0 < (x.length : Int)
    · have hxv : xv x l[i].f0.toNat = rd x l[i].f0 := by
        unfold xv
        rw [show ((l[i].f0.toNat : Nat) : Int) = l[i].f0 by clear b1 b2 b3 b4 hs; omega, if_pos c]
      rw [hxv] at hs
      have hp := mul_R64 (hl _ (List.getElem_mem hi)).2 (rd_R64 hx l[i].f0)
      have hM := More27_ev H L (hl _ (List.getElem_mem hi)).2 (rd_R64 hx l[i].f0)
      have hI := ih (i+1) (H + l[i].f1 * rd x l[i].f0 / 18446744073709551616) (L + l[i].f1 * rd x l[i].f0 % 18446744073709551616) nn nl (st_tv hs) (by rw [hi2]; exact st_lo b1 hp.1) (by rw [hi2]; exact st_hi b2 hp.2) (st_nn b3) (by rw [hi2]; exact st_up b4)
      clear b1 b2 b3 b4 hs hp
      refine Ev.succ (Ev.of (Ev.bind (g := fun k bt => sequiturref27_Eval.l0 k x ((i+1 : Nat) : Int) K l bt.1 bt.2.1 bt.2.2.1 bt.2.2.2) hM hI) fun k => ?_)
      simp only [sequiturref27_Eval.l0]
      rw [if_pos n1, if_pos n2, rdM_at l i hi, if_pos c, if_pos h00, hw]
    · have hxv : xv x l[i].f0.toNat = 0 := by
        unfold xv
        rw [show ((l[i].f0.toNat : Nat) : Int) = l[i].f0 by clear b1 b2 b3 b4 hs; omega, if_neg c]
      rw [hxv, Int.mul_zero, Int.zero_add] at hs
      have hI := ih (i+1) H L nn nl hs (by rw [hi2]; exact (by clear hs; omega)) (by rw [hi2]; exact (by clear hs; omega)) b3 (by rw [hi2]; exact (by clear hs; omega))
      clear b1 b2 b3 b4 hs
      refine Ev.succ (Ev.of hI fun k => ?_)
      simp only [sequiturref27_Eval.l0]
      rw [if_pos n1, if_pos n2, rdM_at l i hi, if_neg c, hw]
theorem refEval27_ev (K : Int) (l : List S68) (x : List Int) (hK : R64 K) (hl : M64 l) (hx : I64 x) (hlen : l.length ≤ 1000000) :
    Ev (fun k => sequiturref27_Eval.f k K l x) (if rightL (-1) l = true then (if (fit64 (evalSum K l x)).2 = true then ((fit64 (evalSum K l x)).1, 0) else (0, 5)) else (0, 1)) := by
  have hr := right27_ev K l (by omega)
  by_cases e : rightL (-1) l = true
  · rw [if_pos e] at hr ⊢
    have hM := More27_ev 0 0 hK (show R64 1 from ⟨by omega, by omega⟩)
    rw [hiW0, loW0] at hM
    have hK1 := hK.1
    have hK2 := hK.2
    have hI := eval27_l0 x hx K l hl e hlen (evalSum K l x) _ 0 (0 + K * 1 / 18446744073709551616) (0 + K * 1 % 18446744073709551616) rfl (by omega) (by
      rw [List.drop_zero, evalSum_val]
      unfold tv
      omega) (by omega) (by omega) (by omega) (by omega)
    have hfit : fitR (evalSum K l x) = fit64 (evalSum K l x) := rfl
    rw [hfit] at hI
    exact Ev.bind hr (Ev.pos rfl (Ev.bind hM hI))
  · rw [if_neg e] at hr ⊢
    exact Ev.bind hr (Ev.neg (by decide) (Ev.now fun _ => rfl))
def evR (V : Int) : Int × Int := if R64 V then (V, 0) else (0, 5)
theorem evR_of (K : Int) (l : List S68) (x : List Int) : (if (fit64 (evalSum K l x)).2 = true then ((fit64 (evalSum K l x)).1, (0:Int)) else (0, 5)) = evR (K + valL l x) := by
  rw [evalSum_val]
  unfold evR
  by_cases h : R64 (K + valL l x)
  · rw [fit64_R h, if_pos rfl, if_pos h]
  · rw [fit64_N h, if_neg (by simp), if_neg h]
section
variable (l : List S70) (v : Int) (x : List Int) (hl : l.length ≤ 1000) (hR : ∀ q ∈ l, R64 q.f0.f0 ∧ M64 q.f0.f1) (hm : ∀ q ∈ l, q.f0.f1.length ≤ 1000000) (hx : I64 x) (hr : ∀ q ∈ l, q.f1 = false ∧ rightL (-1) q.f0.f1 = true)
include hl hR hm hx hr
end
def shC (la lb : List S68) (low up : Int) (v : Nat) : Int := coef la v * up - coef lb v * low
def shK (ka kb low up : Int) (dark : Bool) : Int := ka * up - kb * low + (if dark = true then (-1 - low) * (up - 1) else 0)
def shadeD (ka : Int) (la : List S68) (kb : Int) (lb : List S68) (low up : Int) (dark : Bool) : Int × List S68 × Bool :=
  ((fitR (shK ka kb low up dark)).1, linOf (fun v => (fitR (shC la lb low up v)).1) 64, (fitR (shK ka kb low up dark)).2 && (List.range 64).all fun v => (fitR (shC la lb low up v)).2)
theorem subM_len (b : Int) (acc : List Int) (m : S68) : (subM b acc m).length = acc.length := by simp [subM]
theorem subM_get (b : Int) (acc : List Int) (m : S68) (v : Nat) (hv : v < acc.length) (h0 : 0 ≤ m.f0) : (subM b acc m).getD v 0 = acc.getD v 0 - (if m.f0 = (v : Int) then m.f1 else 0) * b := by
  unfold subM
  rw [List.getD_eq_getElem?_getD, List.getElem?_set, List.getD_eq_getElem?_getD, List.getD_eq_getElem?_getD]
  by_cases e : m.f0 = (v : Int)
  · have e2 : m.f0.toNat = v := by omega
    rw [if_pos e, if_pos e2, if_pos (by omega), e2]; rfl
  · rw [if_neg e, if_neg (by omega), Int.zero_mul, Int.sub_zero]
theorem subMs_get (b : Int) (v : Nat) (l : List S68) : ∀ acc : List Int, v < acc.length → (∀ m ∈ l, 0 ≤ m.f0) → (l.foldl (subM b) acc).getD v 0 = acc.getD v 0 - coef l v * b := by
  induction l with
  | nil => intro acc _ _; simp [coef]
  | cons m l ih =>
    intro acc hv h
    rw [List.foldl_cons, ih _ (by rw [subM_len]; exact hv) (fun a ha => h a (List.mem_cons_of_mem _ ha)), subM_get b acc m v hv (h m (List.mem_cons_self ..))]
    simp only [coef, Int.add_mul]; omega
theorem shadeL_get {la lb : List S68} {low up : Int} (ha : rightL (-1) la = true) (hb : rightL (-1) lb = true) (v : Nat) (hv : v < 64) : (shadeL la lb low up).getD v 0 = shC la lb low up v := by
  unfold shadeL shC
  rw [subMs_get low v lb _ (by rw [addMs_len]; simpa using hv) (fun m hm => (rightL_vars hb m hm).1), addMs_get up v la _ (by simpa using hv) (fun m hm => (rightL_vars ha m hm).1)]
  have h0 : (List.replicate 64 (0:Int)).getD v 0 = 0 := by rw [List.getD_eq_getElem?_getD, List.getElem?_replicate, if_pos hv]; rfl
  rw [h0]; omega
theorem fit192_R {s : Int} (h1 : -3138550867693340381917894711603833208051177722232017256448 ≤ s) (h2 : s < 3138550867693340381917894711603833208051177722232017256448) : fit192 s = fitR s := by
  unfold fit192; rw [wrap192_id h1 h2]; rfl
theorem shC_le {la lb : List S68} {low up : Int} (ha : rightL (-1) la = true) (hb : rightL (-1) lb = true) (hla : M64 la) (hlb : M64 lb) (hlow : R64 low) (hup : R64 up) (v : Nat) :
    -170141183460469231731687303715884105728 ≤ shC la lb low up v ∧ shC la lb low up v ≤ 170141183460469231731687303715884105728 := by
  have h1 := mul_R64 (coef_R64 la (-1) ha hla v) hup
  have h2 := mul_R64 (coef_R64 lb (-1) hb hlb v) hlow
  unfold shC
  omega
theorem shadeK_eq (ka kb low up : Int) (dark : Bool) : shadeK ka kb low up dark = shK ka kb low up dark := by
  unfold shadeK shK
  cases dark
  · simp
  · simp only [if_true]
    rw [Int.sub_mul, Int.mul_sub, Int.mul_sub]
    omega
theorem shK_le {ka kb low up : Int} {dark : Bool} (hka : R64 ka) (hkb : R64 kb) (hlow : R64 low) (hup : R64 up) :
    -680564733841876926926749214863536422912 ≤ shK ka kb low up dark ∧ shK ka kb low up dark ≤ 680564733841876926926749214863536422912 := by
  rw [← shadeK_eq]
  have h1 := mul_R64 hka hup
  have h2 := mul_R64 hkb hlow
  have h3 := mul_R64 hlow hup
  have h4 := hlow.1
  have h5 := hlow.2
  have h6 := hup.1
  have h7 := hup.2
  unfold shadeK
  generalize ka * up = p at *
  generalize kb * low = q at *
  generalize low * up = r at *
  split <;> omega
theorem shade_ev {ka : Int} {la : List S68} {kb : Int} {lb : List S68} (v : Int) (dark : Bool) (hka : R64 ka) (hkb : R64 kb) (hla : M64 la) (hlb : M64 lb) (ha : rightL (-1) la = true) (hb : rightL (-1) lb = true) :
    Ev (fun k => shadow_shade.f k ka la kb lb v dark) (shadeD ka la kb lb (coefI la v) (coefI lb v) dark) := by
  have na := rightL_len la (-1) (by omega) ha
  have nb := rightL_len lb (-1) (by omega) hb
  have hlow := coefI_R64 la v hla
  have hup := coefI_R64 lb v hlb
  refine Ev.bind (linBy_ev ka la v (by omega)) (Ev.bind (linBy_ev kb lb v (by omega)) ?_)
  have hgood : ∀ l : List S68, M64 l → rightL (-1) l = true → l.all goodM = true := by
    intro l hM hr
    rw [List.all_eq_true]
    intro m hm
    have := rightL_vars hr m hm
    simp only [goodM, Bool.and_eq_true, decide_eq_true_eq]
    exact ⟨this, in64_of (hM m hm).2⟩
  refine Ev.pos (by rw [in64_of hka, in64_of hkb, in64_of hlow, in64_of hup, hgood la hla ha, hgood lb hlb hb]; rfl) (Ev.now fun _ => ?_)
  have hk := shK_le (dark := dark) hka hkb hlow hup
  have eK : fit192 (shadeK ka kb (coefI la v) (coefI lb v) dark) = fitR (shK ka kb (coefI la v) (coefI lb v) dark) := by
    rw [shadeK_eq]; exact fit192_R (by omega) (by omega)
  have eC : ∀ i, i < 64 → fit192 ((shadeL la lb (coefI la v) (coefI lb v)).getD i 0) = fitR (shC la lb (coefI la v) (coefI lb v) i) := by
    intro i hi
    have hc := shC_le ha hb hla hlb hlow hup i
    rw [shadeL_get ha hb i hi]
    exact fit192_R (by omega) (by omega)
  have e1 : sumOut (shadeL la lb (coefI la v) (coefI lb v)) 64 = linOf (fun i => (fitR (shC la lb (coefI la v) (coefI lb v) i)).1) 64 := by
    unfold sumOut linOf
    refine filterMap_congr_ _ _ _ fun i hi => ?_
    rw [eC i (List.mem_range.1 hi)]
  have e2 : ((List.range 64).all fun i => (fit192 ((shadeL la lb (coefI la v) (coefI lb v)).getD i 0)).2) = ((List.range 64).all fun i => (fitR (shC la lb (coefI la v) (coefI lb v) i)).2) := by
    rw [Bool.eq_iff_iff, List.all_eq_true, List.all_eq_true]
    constructor
    · intro hh i hi
      have := hh i hi
      rwa [eC i (List.mem_range.1 hi)] at this
    · intro hh i hi
      have := hh i hi
      rwa [eC i (List.mem_range.1 hi)]
  unfold shadeD sumOk
  rw [eK, e1, e2]
def goP {β : Type} (mk : S70 → Int → Int → β) (l : List S70) (v : Int) (dark : Bool) : List (Int × Int) → List β → List β × Int
  | [], acc => (acc, 0)
  | p :: ps, acc => if (shadeD (rd_T70 l p.1).f0.f0 (rd_T70 l p.1).f0.f1 (rd_T70 l p.2).f0.f0 (rd_T70 l p.2).f0.f1 (cf v (rd_T70 l p.1)) (cf v (rd_T70 l p.2)) dark).2.2 = true then goP mk l v dark ps (acc ++ [mk ⟨⟨(shadeD (rd_T70 l p.1).f0.f0 (rd_T70 l p.1).f0.f1 (rd_T70 l p.2).f0.f0 (rd_T70 l p.2).f0.f1 (cf v (rd_T70 l p.1)) (cf v (rd_T70 l p.2)) dark).1, (shadeD (rd_T70 l p.1).f0.f0 (rd_T70 l p.1).f0.f1 (rd_T70 l p.2).f0.f0 (rd_T70 l p.2).f0.f1 (cf v (rd_T70 l p.1)) (cf v (rd_T70 l p.2)) dark).2.1⟩, false⟩ p.1 p.2]) else ([], 5)
def nonesD {β : Type} (mk : S70 → Int → Int → β) (l : List S70) (v : Int) : List β := (bnd 0 v l 0).map fun i => mk (rd_T70 l i) i i
def pairsD (l : List S70) (v : Int) : List (Int × Int) := (bnd (-1) v l 0).flatMap fun i => (bnd 1 v l 0).map fun k => (i, k)
def castD {β : Type} (mk : S70 → Int → Int → β) (l : List S70) (v : Int) (dark : Bool) : List β × Int :=
  if wrongB l v = true then ([], 1) else if ((bnd 0 v l 0).length : Int) + (bnd (-1) v l 0).length * (bnd 1 v l 0).length > 1024 then ([], 2) else goP mk l v dark (pairsD l v) (nonesD mk l v)
theorem bnd_at {s v : Int} {l : List S70} {j : Int} (h : j ∈ bnd s v l 0) : 0 ≤ j ∧ j < l.length ∧ ∃ h : j.toNat < l.length, rd_T70 l j = l[j.toNat] ∧ sgD s (cf v (l[j.toNat]'h)) = true := by
  obtain ⟨h1, h2, h3, h4⟩ := bnd_mem s v l 0 j h
  rw [Int.sub_zero] at h3
  refine ⟨h1, by omega, h3, by simp [rd_T70, h3], ?_⟩
  have e : (j - 0).toNat = j.toNat := by rw [Int.sub_zero]
  simp only [e] at h4
  exact h4
section
variable (l : List S70) (v : Int) (dark : Bool) (hl : l.length ≤ 1000) (hR : ∀ q ∈ l, R64 q.f0.f0 ∧ M64 q.f0.f1) (hr : ∀ q ∈ l, q.f1 = false ∧ rightL (-1) q.f0.f1 = true)
include hl hR hr
theorem all_l2 (R : List S72 × Int) (i : Int) (hi : i ∈ bnd (-1) v l 0) (rest : List (Int × Int)) (L : List Int) (p1 : Int) (HH : ∀ acc : List S72, acc.length + rest.length ≤ 2000000 → Ev (fun k => shadow_all.l1 k l v dark (bnd 1 v l 0) acc L (L.length : Int) p1) (goP S72.mk l v dark rest acc)) (p : Int) (hp : wrap64 (p + 1) = p1) :
    ∀ (d j : Nat) (acc : List S72), (bnd 1 v l 0).length - j = d → j ≤ (bnd 1 v l 0).length → acc.length + (((bnd 1 v l 0).drop j).map fun k => (i, k)).length + rest.length ≤ 2000000 →
    Ev (fun k => shadow_all.l2 k l v dark (bnd 1 v l 0) acc i L (L.length : Int) p (bnd 1 v l 0) ((bnd 1 v l 0).length : Int) j) (goP S72.mk l v dark ((((bnd 1 v l 0).drop j).map fun k => (i, k)) ++ rest) acc) := by
  have hbl := bnd_len 1 v l 0
  obtain ⟨i0, i1, i2, i3, i4⟩ := bnd_at hi
  intro d
  induction d with
  | zero =>
    intro j acc h1 h2 h3
    rw [List.drop_eq_nil_of_le (by omega)] at h3 ⊢
    refine Ev.succ ?_
    simp only [shadow_all.l2]
    refine Ev.neg (by omega) ?_
    rw [hp]
    exact HH acc (by simpa using h3)
  | succ d ih =>
    intro j acc h1 h2 h3
    have hj : j < (bnd 1 v l 0).length := by omega
    rw [List.drop_eq_getElem_cons hj] at h3 ⊢
    rw [List.map_cons, List.cons_append]
    simp only [List.map_cons, List.length_cons] at h3
    have hm : (bnd 1 v l 0)[j] ∈ bnd 1 v l 0 := List.getElem_mem hj
    obtain ⟨k0, k1, k2, k3, k4⟩ := bnd_at hm
    have hrd : rd (bnd 1 v l 0) (j : Int) = (bnd 1 v l 0)[j] := rd_at _ j hj
    have qi := hR _ (List.getElem_mem i2)
    have qk := hR _ (List.getElem_mem k2)
    have ri := (hr _ (List.getElem_mem i2)).2
    have rk := (hr _ (List.getElem_mem k2)).2
    rw [← i3] at qi ri
    rw [← k3] at qk rk
    have hs := shade_ev (ka := (rd_T70 l i).f0.f0) (kb := (rd_T70 l (bnd 1 v l 0)[j]).f0.f0) v dark qi.1 qk.1 qi.2 qk.2 ri rk
    refine Ev.succ ?_
    simp only [shadow_all.l2]
    rw [hrd, show wrap64 ((j:Int) + 1) = ((j+1 : Nat) : Int) by rw [w64 (by omega) (by omega)]; omega]
    refine Ev.pos (by omega) (Ev.pos (by omega) (Ev.pos (by omega) (Ev.pos i0 (Ev.pos i1 (Ev.pos k0 (Ev.pos k1 (Ev.bind hs ?_)))))))
    simp only [goP]
    by_cases c : (shadeD (rd_T70 l i).f0.f0 (rd_T70 l i).f0.f1 (rd_T70 l (bnd 1 v l 0)[j]).f0.f0 (rd_T70 l (bnd 1 v l 0)[j]).f0.f1 (coefI (rd_T70 l i).f0.f1 v) (coefI (rd_T70 l (bnd 1 v l 0)[j]).f0.f1 v) dark).2.2 = true
    · rw [if_pos (show (shadeD (rd_T70 l i).f0.f0 (rd_T70 l i).f0.f1 (rd_T70 l (bnd 1 v l 0)[j]).f0.f0 (rd_T70 l (bnd 1 v l 0)[j]).f0.f1 (cf v (rd_T70 l i)) (cf v (rd_T70 l (bnd 1 v l 0)[j])) dark).2.2 = true from c)]
      refine Ev.pos c (Ev.pos (by omega) ?_)
      exact ih (j+1) _ (by omega) (by omega) (by simp only [List.length_append, List.length_cons, List.length_nil]; omega)
    · rw [if_neg (show ¬ (shadeD (rd_T70 l i).f0.f0 (rd_T70 l i).f0.f1 (rd_T70 l (bnd 1 v l 0)[j]).f0.f0 (rd_T70 l (bnd 1 v l 0)[j]).f0.f1 (cf v (rd_T70 l i)) (cf v (rd_T70 l (bnd 1 v l 0)[j])) dark).2.2 = true from c)]
      exact Ev.neg c (Ev.now fun _ => rfl)
theorem all_l1 : ∀ (d j : Nat) (acc : List S72), (bnd (-1) v l 0).length - j = d → j ≤ (bnd (-1) v l 0).length → acc.length + (((bnd (-1) v l 0).drop j).flatMap fun i => (bnd 1 v l 0).map fun k => (i, k)).length ≤ 2000000 →
    Ev (fun k => shadow_all.l1 k l v dark (bnd 1 v l 0) acc (bnd (-1) v l 0) ((bnd (-1) v l 0).length : Int) j) (goP S72.mk l v dark (((bnd (-1) v l 0).drop j).flatMap fun i => (bnd 1 v l 0).map fun k => (i, k)) acc) := by
  have hbl := bnd_len (-1) v l 0
  intro d
  induction d with
  | zero =>
    intro j acc h1 h2 h3
    rw [List.drop_eq_nil_of_le (by omega)]
    refine Ev.succ ?_
    simp only [shadow_all.l1]
    exact Ev.neg (by omega) (Ev.now fun _ => rfl)
  | succ d ih =>
    intro j acc h1 h2 h3
    have hj : j < (bnd (-1) v l 0).length := by omega
    rw [List.drop_eq_getElem_cons hj, List.flatMap_cons] at h3 ⊢
    rw [List.length_append] at h3
    have hrd : rd (bnd (-1) v l 0) (j : Int) = (bnd (-1) v l 0)[j] := rd_at _ j hj
    refine Ev.succ ?_
    simp only [shadow_all.l1]
    rw [hrd]
    refine Ev.pos (by omega) (Ev.pos (by omega) (Ev.pos (by omega) ?_))
    have := all_l2 l v dark hl hR hr (goP S72.mk l v dark (((bnd (-1) v l 0).drop (j+1)).flatMap fun i => (bnd 1 v l 0).map fun k => (i, k)) acc) (bnd (-1) v l 0)[j] (List.getElem_mem hj) (((bnd (-1) v l 0).drop (j+1)).flatMap fun i => (bnd 1 v l 0).map fun k => (i, k)) (bnd (-1) v l 0) ((j+1 : Nat) : Int) (fun acc' ha => ih (j+1) acc' (by omega) (by omega) ha) j (by rw [w64 (by omega) (by omega)]; omega) _ 0 acc rfl (by omega) (by rw [List.drop_zero]; omega)
    rw [List.drop_zero] at this
    exact this
theorem all_l0 (hlen : ((bnd (-1) v l 0).flatMap fun i => (bnd 1 v l 0).map fun k => (i, k)).length ≤ 1000000) : ∀ (d j : Nat) (acc : List S72), (bnd 0 v l 0).length - j = d → j ≤ (bnd 0 v l 0).length → acc.length ≤ j →
    Ev (fun k => shadow_all.l0 k l v dark (bnd (-1) v l 0) (bnd 1 v l 0) acc (bnd 0 v l 0) ((bnd 0 v l 0).length : Int) j) (goP S72.mk l v dark (pairsD l v) (acc ++ ((bnd 0 v l 0).drop j).map fun i => S72.mk (rd_T70 l i) i i)) := by
  have hbl := bnd_len 0 v l 0
  intro d
  induction d with
  | zero =>
    intro j acc h1 h2 h3
    rw [List.drop_eq_nil_of_le (by omega)]
    refine Ev.succ ?_
    simp only [shadow_all.l0]
    refine Ev.neg (by omega) ?_
    have := all_l1 l v dark hl hR hr _ 0 acc rfl (by omega) (by rw [List.drop_zero]; omega)
    rw [List.drop_zero] at this
    refine this.val ?_
    simp [pairsD]
  | succ d ih =>
    intro j acc h1 h2 h3
    have hj : j < (bnd 0 v l 0).length := by omega
    rw [List.drop_eq_getElem_cons hj, List.map_cons]
    have hrd : rd (bnd 0 v l 0) (j : Int) = (bnd 0 v l 0)[j] := rd_at _ j hj
    obtain ⟨k0, k1, k2, k3, k4⟩ := bnd_at (List.getElem_mem hj)
    refine Ev.succ ?_
    simp only [shadow_all.l0]
    rw [hrd, show wrap64 ((j:Int) + 1) = ((j+1 : Nat) : Int) by rw [w64 (by omega) (by omega)]; omega]
    refine Ev.pos (by omega) (Ev.pos (by omega) (Ev.pos (by omega) (Ev.pos k0 (Ev.pos k1 (Ev.pos (by omega) ?_)))))
    refine (ih (j+1) _ (by omega) (by omega) (by simp; omega)).val ?_
    rw [List.append_assoc]; rfl
end
theorem flat_len (l : List S70) (v : Int) : ((bnd (-1) v l 0).flatMap fun i => (bnd 1 v l 0).map fun k => (i, k)).length = (bnd (-1) v l 0).length * (bnd 1 v l 0).length := by
  rw [List.length_flatMap]
  simp only [List.length_map, List.map_const', List.sum_replicate_nat]
theorem all_ev (l : List S70) (v : Int) (dark : Bool) (hl : l.length ≤ 1000) (hR : ∀ q ∈ l, R64 q.f0.f0 ∧ M64 q.f0.f1) (hm : ∀ q ∈ l, q.f0.f1.length ≤ 9223372036854775807) : Ev (fun k => shadow_all.f k l v dark) (castD S72.mk l v dark) := by
  have b0 := bnd_len 0 v l 0
  have b1 := bnd_len (-1) v l 0
  have b2 := bnd_len 1 v l 0
  have hmul : (bnd (-1) v l 0).length * (bnd 1 v l 0).length ≤ 1000 * 1000 := Nat.mul_le_mul (by omega) (by omega)
  refine Ev.bind (wrong_ev l v (by omega) hm) ?_
  unfold castD
  by_cases w : wrongB l v = true
  · rw [if_pos w]
    exact Ev.pos w (Ev.now fun _ => rfl)
  · rw [if_neg w]
    refine Ev.neg w (Ev.bind (bounds_ev 0 l v (by omega) hm) (Ev.bind (bounds_ev (-1) l v (by omega) hm) (Ev.bind (bounds_ev 1 l v (by omega) hm) ?_)))
    have hcast : ((bnd (-1) v l 0).length : Int) * (bnd 1 v l 0).length = (((bnd (-1) v l 0).length * (bnd 1 v l 0).length : Nat) : Int) := by simp
    have hw : wrap64 (((bnd 0 v l 0).length : Int) + (wrap64 (((bnd (-1) v l 0).length : Int) * ((bnd 1 v l 0).length : Int)))) = ((bnd 0 v l 0).length : Int) + (bnd (-1) v l 0).length * (bnd 1 v l 0).length := by
      rw [hcast]
      generalize (bnd (-1) v l 0).length * (bnd 1 v l 0).length = M at *
      rw [w64 (n := (M : Int)) (by omega) (by omega), w64 (by omega) (by omega)]
    rw [hw]
    by_cases c : ((bnd 0 v l 0).length : Int) + (bnd (-1) v l 0).length * (bnd 1 v l 0).length > 1024
    · rw [if_pos c]
      exact Ev.pos c (Ev.now fun _ => rfl)
    · rw [if_neg c]
      have hr := (wrongB_not (show wrongB l v = false by simpa using w)).2.2
      refine Ev.neg c ?_
      have := all_l0 l v dark hl hR hr (by rw [flat_len]; omega) _ 0 [] rfl (by omega) (by simp)
      rw [List.drop_zero, List.nil_append] at this
      exact this
theorem real_ev (l : List S70) (v : Int) (hl : l.length ≤ 1000) (hR : ∀ q ∈ l, R64 q.f0.f0 ∧ M64 q.f0.f1) (hm : ∀ q ∈ l, q.f0.f1.length ≤ 9223372036854775807) : Ev (fun k => shadow_Real.f k l v) (castD S72.mk l v false) := Ev.bind (all_ev l v false hl hR hm) (Ev.now fun _ => rfl)
theorem dark_ev (l : List S70) (v : Int) (hl : l.length ≤ 1000) (hR : ∀ q ∈ l, R64 q.f0.f0 ∧ M64 q.f0.f1) (hm : ∀ q ∈ l, q.f0.f1.length ≤ 9223372036854775807) : Ev (fun k => shadow_Dark.f k l v) (castD S72.mk l v true) := Ev.bind (all_ev l v true hl hR hm) (Ev.now fun _ => rfl)
theorem bnd_map (s v : Int) (l : List S70) : ∀ (d i : Nat), l.length - i = d → i ≤ l.length → (bnd s v (l.drop i) i).map (rd_T70 l) = (l.drop i).filter fun q => sgD s (cf v q) := by
  intro d
  induction d with
  | zero => intro i h1 h2; rw [List.drop_eq_nil_of_le (by omega)]; rfl
  | succ d ih =>
    intro i h1 h2
    have hi : i < l.length := by omega
    rw [List.drop_eq_getElem_cons hi, List.filter_cons]
    have e : ((i + 1 : Nat) : Int) = (i : Int) + 1 := by omega
    have hI := ih (i+1) (by omega) (by omega)
    rw [e] at hI
    simp only [bnd]
    by_cases c : sgD s (cf v l[i]) = true
    · rw [if_pos c, if_pos c, List.map_cons, rdI_at l i hi, hI]
    · rw [if_neg c, if_neg c, hI]
theorem bnd_filter (s v : Int) (l : List S70) : (bnd s v l 0).map (rd_T70 l) = l.filter fun q => sgD s (cf v q) := by
  have := bnd_map s v l _ 0 rfl (by omega)
  rwa [List.drop_zero] at this
section
variable (l : List S70) (v : Int) (hl : l.length ≤ 1000) (hm : ∀ q ∈ l, q.f0.f1.length ≤ 1000000)
include hl hm
end
def smQ (q : S70) : Prop := q.f1 = false ∧ rightL (-1) q.f0.f1 = true ∧ (-1000 ≤ q.f0.f0 ∧ q.f0.f0 ≤ 1000) ∧ ∀ m ∈ q.f0.f1, -100 ≤ m.f1 ∧ m.f1 ≤ 100
def smX (x : List Int) : Prop := ∀ n ∈ x, -1000 ≤ n ∧ n ≤ 1000
theorem small_l2 (x : List Int) (hl : x.length ≤ 1000) : ∀ (d i : Nat), x.length - i = d → i ≤ x.length → ∃ b, Ev (fun k => sequiturlaw30_small.l2 k x (x.length : Int) i) b ∧ (b = true → smX (x.drop i)) := by
  intro d
  induction d with
  | zero =>
    intro i h1 h2
    refine ⟨true, Ev.succ ?_, fun _ => ?_⟩
    · simp only [sequiturlaw30_small.l2]
      exact Ev.neg (by omega) (Ev.now fun _ => rfl)
    · rw [List.drop_eq_nil_of_le (by omega)]; intro n hn; simp at hn
  | succ d ih =>
    intro i h1 h2
    have hi : i < x.length := by omega
    have hrd : rd x (i : Int) = x[i] := rd_at _ i hi
    obtain ⟨b, hb, hp⟩ := ih (i+1) (by omega) (by omega)
    by_cases c1 : x[i] > 1000
    · refine ⟨false, Ev.succ ?_, fun h => by cases h⟩
      simp only [sequiturlaw30_small.l2]
      rw [hrd]
      exact Ev.pos (by omega) (Ev.pos (by omega) (Ev.pos (by omega) (Ev.pos c1 (Ev.now fun _ => rfl))))
    by_cases c2 : x[i] < -1000
    · refine ⟨false, Ev.succ ?_, fun h => by cases h⟩
      simp only [sequiturlaw30_small.l2]
      rw [hrd]
      exact Ev.pos (by omega) (Ev.pos (by omega) (Ev.pos (by omega) (Ev.neg c1 (Ev.pos c2 (Ev.now fun _ => rfl)))))
    · refine ⟨b, Ev.succ ?_, fun h => ?_⟩
      · simp only [sequiturlaw30_small.l2]
        rw [hrd, show wrap64 ((i:Int) + 1) = ((i+1 : Nat) : Int) by rw [w64 (by omega) (by omega)]; omega]
        exact Ev.pos (by omega) (Ev.pos (by omega) (Ev.pos (by omega) (Ev.neg c1 (Ev.neg c2 hb))))
      · rw [List.drop_eq_getElem_cons hi]
        intro n hn
        rcases List.mem_cons.1 hn with rfl | hn
        · omega
        · exact hp h n hn
theorem small_l1 (x : List Int) (L : List S70) (n p : Int) (m : List S68) (hl : m.length ≤ 1000) (b : Bool) (P : Prop) (HH : Ev (fun k => sequiturlaw30_small.l0 k x L n (wrap64 (p + 1))) b) (hP : b = true → P) : ∀ (d i : Nat), m.length - i = d → i ≤ m.length →
    ∃ b, Ev (fun k => sequiturlaw30_small.l1 k x L n p m (m.length : Int) i) b ∧ (b = true → P ∧ ∀ q ∈ m.drop i, -100 ≤ q.f1 ∧ q.f1 ≤ 100) := by
  intro d
  induction d with
  | zero =>
    intro i h1 h2
    refine ⟨b, Ev.succ ?_, fun h => ⟨hP h, ?_⟩⟩
    · simp only [sequiturlaw30_small.l1]
      exact Ev.neg (by omega) HH
    · rw [List.drop_eq_nil_of_le (by omega)]; intro n hn; simp at hn
  | succ d ih =>
    intro i h1 h2
    have hi : i < m.length := by omega
    obtain ⟨c, hc, hp⟩ := ih (i+1) (by omega) (by omega)
    by_cases c1 : m[i].f1 > 100
    · refine ⟨false, Ev.succ ?_, fun h => by cases h⟩
      simp only [sequiturlaw30_small.l1]
      rw [rdM_at m i hi]
      exact Ev.pos (by omega) (Ev.pos (by omega) (Ev.pos (by omega) (Ev.pos c1 (Ev.now fun _ => rfl))))
    by_cases c2 : m[i].f1 < -100
    · refine ⟨false, Ev.succ ?_, fun h => by cases h⟩
      simp only [sequiturlaw30_small.l1]
      rw [rdM_at m i hi]
      exact Ev.pos (by omega) (Ev.pos (by omega) (Ev.pos (by omega) (Ev.neg c1 (Ev.pos c2 (Ev.now fun _ => rfl)))))
    · refine ⟨c, Ev.succ ?_, fun h => ⟨(hp h).1, ?_⟩⟩
      · simp only [sequiturlaw30_small.l1]
        rw [rdM_at m i hi, show wrap64 ((i:Int) + 1) = ((i+1 : Nat) : Int) by rw [w64 (by omega) (by omega)]; omega]
        exact Ev.pos (by omega) (Ev.pos (by omega) (Ev.pos (by omega) (Ev.neg c1 (Ev.neg c2 hc))))
      · rw [List.drop_eq_getElem_cons hi]
        intro q hq
        rcases List.mem_cons.1 hq with rfl | hq
        · omega
        · exact (hp h).2 q hq
theorem small_l0 (l : List S70) (x : List Int) (hl : l.length ≤ 1000) (hm : ∀ q ∈ l, q.f0.f1.length ≤ 1000) (hK : ∀ q ∈ l, R64 q.f0.f0) (hx : x.length ≤ 1000) : ∀ (d i : Nat), l.length - i = d → i ≤ l.length →
    ∃ b, Ev (fun k => sequiturlaw30_small.l0 k x l (l.length : Int) i) b ∧ (b = true → (∀ q ∈ l.drop i, smQ q) ∧ smX x) := by
  intro d
  induction d with
  | zero =>
    intro i h1 h2
    obtain ⟨b, hb, hp⟩ := small_l2 x hx _ 0 rfl (by omega)
    rw [List.drop_zero] at hp
    refine ⟨b, Ev.succ ?_, fun h => ⟨?_, hp h⟩⟩
    · simp only [sequiturlaw30_small.l0]
      exact Ev.neg (by omega) hb
    · rw [List.drop_eq_nil_of_le (by omega)]; intro n hn; simp at hn
  | succ d ih =>
    intro i h1 h2
    have hi : i < l.length := by omega
    have hmi := hm _ (List.getElem_mem hi)
    have hKi := hK _ (List.getElem_mem hi)
    have hR := right27_ev l[i].f0.f0 l[i].f0.f1 (by omega)
    have hwi : wrap64 ((i:Int) + 1) = ((i+1 : Nat) : Int) := by rw [w64 (by omega) (by omega)]; omega
    obtain ⟨c, hc, hp⟩ := ih (i+1) (by omega) (by omega)
    have hbad : Ev (fun k => sequiturlaw30_small.j2 k x l (l.length : Int) i true l[i].f0.f0 l[i].f0.f1 l[i].f1) false := by
      refine Ev.succ ?_
      simp only [sequiturlaw30_small.j2]
      exact Ev.pos trivial (Ev.now fun _ => rfl)
    by_cases c1 : l[i].f1 = true
    · refine ⟨false, Ev.succ ?_, fun h => by cases h⟩
      simp only [sequiturlaw30_small.l0]
      rw [rdI_at l i hi]
      exact Ev.pos (by omega) (Ev.pos (by omega) (Ev.pos (by omega) (Ev.pos c1 hbad)))
    by_cases c2 : rightL (-1) l[i].f0.f1 = true
    · rw [if_pos c2] at hR
      have hmx : mx l[i].f0.f0 (wrap64 (-l[i].f0.f0)) > 1000 ∨ l[i].f0.f0 < -1000 ∨ (-1000 ≤ l[i].f0.f0 ∧ l[i].f0.f0 ≤ 1000) := by
        have h1 := hKi.1
        have h2 := hKi.2
        by_cases e : l[i].f0.f0 > 1000
        · left; unfold mx; split <;> omega
        · omega
      by_cases c3 : mx l[i].f0.f0 (wrap64 (-l[i].f0.f0)) > 1000
      · refine ⟨false, Ev.succ ?_, fun h => by cases h⟩
        simp only [sequiturlaw30_small.l0]
        rw [rdI_at l i hi]
        exact Ev.pos (by omega) (Ev.pos (by omega) (Ev.pos (by omega) (Ev.neg c1 (Ev.bind hR (Ev.pos rfl (Ev.pos c3 hbad))))))
      by_cases c4 : l[i].f0.f0 < -1000
      · refine ⟨false, Ev.succ ?_, fun h => by cases h⟩
        simp only [sequiturlaw30_small.l0]
        rw [rdI_at l i hi, decide_eq_true c4]
        exact Ev.pos (by omega) (Ev.pos (by omega) (Ev.pos (by omega) (Ev.neg c1 (Ev.bind hR (Ev.pos rfl (Ev.neg c3 hbad))))))
      · obtain ⟨b, hb, hq⟩ := small_l1 x l (l.length : Int) i l[i].f0.f1 hmi c _ (by rw [hwi]; exact hc) hp _ 0 rfl (by omega)
        rw [List.drop_zero] at hq
        refine ⟨b, Ev.succ ?_, fun h => ⟨?_, (hq h).1.2⟩⟩
        · simp only [sequiturlaw30_small.l0]
          rw [rdI_at l i hi, decide_eq_false c4]
          refine Ev.pos (by omega) (Ev.pos (by omega) (Ev.pos (by omega) (Ev.neg c1 (Ev.bind hR (Ev.pos rfl (Ev.neg c3 ?_))))))
          refine Ev.succ ?_
          simp only [sequiturlaw30_small.j2]
          exact Ev.neg (by simp) hb
        · rw [List.drop_eq_getElem_cons hi]
          intro q hqm
          rcases List.mem_cons.1 hqm with rfl | hqm
          · exact ⟨by simpa using c1, c2, by omega, (hq h).2⟩
          · exact (hq h).1.1 q hqm
    · rw [if_neg c2] at hR
      refine ⟨false, Ev.succ ?_, fun h => by cases h⟩
      simp only [sequiturlaw30_small.l0]
      rw [rdI_at l i hi]
      exact Ev.pos (by omega) (Ev.pos (by omega) (Ev.pos (by omega) (Ev.neg c1 (Ev.bind hR (Ev.neg (by decide) hbad)))))
theorem small_ev (l : List S70) (x : List Int) (hK : ∀ q ∈ l, R64 q.f0.f0) : ∃ b, Ev (fun k => sequiturlaw30_small.f k l x) b ∧ (b = true → (∀ q ∈ l, smQ q) ∧ smX x ∧ l.length ≤ 12 ∧ (∀ q ∈ l, q.f0.f1.length ≤ 70) ∧ 1 ≤ x.length ∧ x.length ≤ 8) := by
  have hL := long30_ev l 12 (by omega)
  have hbad : ∀ b, b = true → Ev (fun k => sequiturlaw30_small.j0 k l x b) false := by
    intro b hb
    subst hb
    refine Ev.succ ?_
    simp only [sequiturlaw30_small.j0]
    exact Ev.pos trivial (Ev.now fun _ => rfl)
  by_cases c1 : longI l 12 = true
  · exact ⟨false, Ev.bind hL (Ev.pos c1 (hbad _ rfl)), fun h => by cases h⟩
  obtain ⟨n1, n2⟩ := longI_not (show longI l 12 = false by simpa using c1)
  by_cases c2 : (x.length : Int) = 0
  · exact ⟨false, Ev.bind hL (Ev.neg c1 (Ev.pos c2 (hbad _ rfl))), fun h => by cases h⟩
  by_cases c3 : (x.length : Int) > 8
  · exact ⟨false, Ev.bind hL (Ev.neg c1 (Ev.neg c2 (hbad _ (decide_eq_true c3)))), fun h => by cases h⟩
  obtain ⟨b, hb, hp⟩ := small_l0 l x (by omega) (fun q hq => Nat.le_trans (n2 q hq) (by decide)) hK (by omega) _ 0 rfl (by omega)
  rw [List.drop_zero] at hp
  refine ⟨b, Ev.bind hL (Ev.neg c1 (Ev.neg c2 (Ev.succ ?_))), fun h => ⟨(hp h).1, (hp h).2, by omega, n2, by omega, by omega⟩⟩
  simp only [sequiturlaw30_small.j0]
  exact Ev.neg (by simpa using c3) hb
def hV (x : List Int) (q : S70) : Int := q.f0.f0 + valL q.f0.f1 x
theorem valL_le (x : List Int) (hx : smX x) : ∀ (l : List S68), (∀ m ∈ l, -100 ≤ m.f1 ∧ m.f1 ≤ 100) → (∀ m ∈ l, 0 ≤ m.f0) → -(l.length * 100000 : Int) ≤ valL l x ∧ valL l x ≤ l.length * 100000 := by
  intro l
  induction l with
  | nil => intro _ _; exact ⟨by simp [valL], by simp [valL]⟩
  | cons m l ih =>
    intro h h0
    have hI := ih (fun a ha => h a (List.mem_cons_of_mem _ ha)) (fun a ha => h0 a (List.mem_cons_of_mem _ ha))
    have hm := h m (List.mem_cons_self ..)
    rw [valL_cons m l x (h0 m (List.mem_cons_self ..))]
    have hxv : -1000 ≤ xv x m.f0.toNat ∧ xv x m.f0.toNat ≤ 1000 := by
      unfold xv
      split
      · rename_i hc
        have hlt : m.f0.toNat < x.length := by omega
        rw [rd_at x _ hlt]
        exact hx _ (List.getElem_mem hlt)
      · omega
    have hp : -100000 ≤ m.f1 * xv x m.f0.toNat ∧ m.f1 * xv x m.f0.toNat ≤ 100000 := by
      have h1 := Nat.mul_le_mul (show m.f1.natAbs ≤ 100 by omega) (show (xv x m.f0.toNat).natAbs ≤ 1000 by omega)
      rw [← Int.natAbs_mul] at h1
      omega
    simp only [List.length_cons]
    omega
theorem right_pos {l : List S68} (h : rightL (-1) l = true) : ∀ m ∈ l, 0 ≤ m.f0 := fun m hm => (rightL_vars h m hm).1
theorem hV_le {x : List Int} (hx : smX x) {q : S70} (hq : smQ q) : -6401000 ≤ hV x q ∧ hV x q ≤ 6401000 := by
  obtain ⟨_, h2, h3, h4⟩ := hq
  have := valL_le x hx q.f0.f1 h4 (right_pos h2)
  have hl := rightL_len q.f0.f1 (-1) (by omega) h2
  unfold hV
  omega
theorem cf_le {q : S70} (hq : smQ q) (v : Int) : -100 ≤ cf v q ∧ cf v q ≤ 100 := by
  have key : ∀ l : List S68, (∀ m ∈ l, -100 ≤ m.f1 ∧ m.f1 ≤ 100) → -100 ≤ coefI l v ∧ coefI l v ≤ 100 := by
    intro l
    induction l with
    | nil => intro _; exact ⟨by simp [coefI], by simp [coefI]⟩
    | cons m l ih =>
      intro h
      simp only [coefI]
      split
      · exact h m (List.mem_cons_self ..)
      · exact ih (fun a ha => h a (List.mem_cons_of_mem _ ha))
  exact key _ hq.2.2.2
/-- The value of a shadow. -/
theorem shade_val {x : List Int} {ka kb low up : Int} {la lb : List S68} (dark : Bool) (ha : rightL (-1) la = true) (hb : rightL (-1) lb = true) :
    shK ka kb low up dark + valL (linOf (shC la lb low up) 64) x = up * (ka + valL la x) - low * (kb + valL lb x) + (if dark = true then (-1 - low) * (up - 1) else 0) := by
  rw [linOf_val, valL_sg x la (rightL_vars ha), valL_sg x lb (rightL_vars hb)]
  have e : sg 64 (fun v => shC la lb low up v * xv x v) = sg 64 (fun v => coef la v * xv x v) * up + sg 64 (fun v => coef lb v * xv x v) * (-low) := by
    rw [← sg_mul, ← sg_mul, ← sg_add]
    refine sg_congr fun i _ => ?_
    unfold shC
    rw [Int.sub_mul, Int.mul_right_comm, Int.mul_right_comm (coef lb i), Int.mul_neg]
    omega
  rw [e]
  unfold shK
  generalize sg 64 (fun v => coef la v * xv x v) = A
  generalize sg 64 (fun v => coef lb v * xv x v) = B
  rw [Int.mul_add, Int.mul_add, Int.mul_neg, Int.mul_comm up ka, Int.mul_comm up A, Int.mul_comm low kb, Int.mul_comm low B]
  omega
theorem fitR_in {s : Int} (h : R64 s) : fitR s = (s, true) := by unfold fitR; rw [if_pos h]
theorem shade_small {p q : S70} (hp : smQ p) (hq : smQ q) (v : Int) (dark : Bool) : shadeD p.f0.f0 p.f0.f1 q.f0.f0 q.f0.f1 (cf v p) (cf v q) dark = (shK p.f0.f0 q.f0.f0 (cf v p) (cf v q) dark, linOf (shC p.f0.f1 q.f0.f1 (cf v p) (cf v q)) 64, true) := by
  have c1 := cf_le hp v
  have c2 := cf_le hq v
  have k1 := hp.2.2.1
  have k2 := hq.2.2.1
  have bnd2 : ∀ a b A B : Int, -A ≤ a → a ≤ A → -B ≤ b → b ≤ B → 0 ≤ A → 0 ≤ B → A ≤ 1000 → B ≤ 1000 → -1000000 ≤ a * b ∧ a * b ≤ 1000000 := by
    intro a b A B h1 h2 h3 h4 h5 h6 h7 h8
    have h := Nat.mul_le_mul (show a.natAbs ≤ 1000 by omega) (show b.natAbs ≤ 1000 by omega)
    rw [← Int.natAbs_mul] at h
    omega
  have hK : R64 (shK p.f0.f0 q.f0.f0 (cf v p) (cf v q) dark) := by
    have a1 := bnd2 p.f0.f0 (cf v q) 1000 100 (by omega) (by omega) (by omega) (by omega) (by omega) (by omega) (by omega) (by omega)
    have a2 := bnd2 q.f0.f0 (cf v p) 1000 100 (by omega) (by omega) (by omega) (by omega) (by omega) (by omega) (by omega) (by omega)
    have a3 := bnd2 (-1 - cf v p) (cf v q - 1) 1000 1000 (by omega) (by omega) (by omega) (by omega) (by omega) (by omega) (by omega) (by omega)
    unfold shK
    split
    · exact ⟨by omega, by omega⟩
    · exact ⟨by omega, by omega⟩
  have hcf : ∀ (l : List S68), rightL (-1) l = true → (∀ m ∈ l, -100 ≤ m.f1 ∧ m.f1 ≤ 100) → ∀ i : Nat, -100 ≤ coef l i ∧ coef l i ≤ 100 := by
    intro l hr hm i
    rw [← coefI_coef l (-1) hr (by omega) i]
    clear hr
    induction l with
    | nil => exact ⟨by simp [coefI], by simp [coefI]⟩
    | cons m l ih =>
      simp only [coefI]
      split
      · exact hm m (List.mem_cons_self ..)
      · exact ih (fun a ha => hm a (List.mem_cons_of_mem _ ha))
  have hC : ∀ i : Nat, R64 (shC p.f0.f1 q.f0.f1 (cf v p) (cf v q) i) := by
    intro i
    have b1 := hcf _ hp.2.1 hp.2.2.2 i
    have b2 := hcf _ hq.2.1 hq.2.2.2 i
    have a1 := bnd2 (coef p.f0.f1 i) (cf v q) 100 100 (by omega) (by omega) (by omega) (by omega) (by omega) (by omega) (by omega) (by omega)
    have a2 := bnd2 (coef q.f0.f1 i) (cf v p) 100 100 (by omega) (by omega) (by omega) (by omega) (by omega) (by omega) (by omega) (by omega)
    unfold shC
    exact ⟨by omega, by omega⟩
  unfold shadeD
  rw [fitR_in hK]
  have e1 : linOf (fun i => (fitR (shC p.f0.f1 q.f0.f1 (cf v p) (cf v q) i)).1) 64 = linOf (shC p.f0.f1 q.f0.f1 (cf v p) (cf v q)) 64 := linOf_congr fun i _ => by rw [fitR_in (hC i)]
  have e2 : ((List.range 64).all fun i => (fitR (shC p.f0.f1 q.f0.f1 (cf v p) (cf v q) i)).2) = true := by
    rw [List.all_eq_true]
    intro i _
    rw [fitR_in (hC i)]
  rw [e1, e2]; rfl
def holdB (x : List Int) (q : S70) : Bool := decide (R64 (hV x q)) && decide (hV x q ≤ 0) && (!q.f1 || decide (hV x q = 0))
theorem holds_l0 (l : List S70) (x : List Int) (hl : l.length ≤ 1000000) (hR : ∀ q ∈ l, R64 q.f0.f0 ∧ M64 q.f0.f1 ∧ rightL (-1) q.f0.f1 = true) (hx : I64 x) : ∀ (d i : Nat), l.length - i = d → i ≤ l.length →
    Ev (fun k => sequiturref30_Holds.l0 k l x i) ((l.drop i).all (holdB x)) := by
  intro d
  induction d with
  | zero =>
    intro i h1 h2
    rw [List.drop_eq_nil_of_le (by omega)]
    refine Ev.succ ?_
    simp only [sequiturref30_Holds.l0]
    exact Ev.neg (by omega) (Ev.now fun _ => rfl)
  | succ d ih =>
    intro i h1 h2
    have hi : i < l.length := by omega
    obtain ⟨q1, q2, q3⟩ := hR _ (List.getElem_mem hi)
    have hlen := rightL_len l[i].f0.f1 (-1) (by omega) q3
    have hE := refEval27_ev l[i].f0.f0 l[i].f0.f1 x q1 q2 hx (by omega)
    rw [if_pos q3, evR_of] at hE
    have hI := ih (i+1) (by omega) (by omega)
    rw [List.drop_eq_getElem_cons hi, List.all_cons]
    refine Ev.succ ?_
    simp only [sequiturref30_Holds.l0]
    rw [rdI_at l i hi, show wrap64 ((i:Int) + 1) = ((i+1 : Nat) : Int) by rw [w64 (by omega) (by omega)]; omega]
    refine Ev.pos (by omega) (Ev.pos (by omega) (Ev.bind hE ?_))
    have hv : l[i].f0.f0 + valL l[i].f0.f1 x = hV x l[i] := rfl
    rw [hv]
    unfold holdB evR
    by_cases c0 : R64 (hV x l[i])
    · rw [if_pos c0, decide_eq_true c0, Bool.true_and]
      refine Ev.pos rfl ?_
      by_cases c1 : hV x l[i] > 0
      · rw [decide_eq_false (show ¬ hV x l[i] ≤ 0 by omega)]
        exact Ev.pos c1 (Ev.now fun _ => rfl)
      · rw [decide_eq_true (show hV x l[i] ≤ 0 by omega), Bool.true_and]
        refine Ev.neg c1 ?_
        by_cases c2 : l[i].f1 = true
        · rw [c2]
          refine Ev.pos (by simp) ?_
          by_cases c3 : hV x l[i] = 0
          · rw [decide_eq_true c3]
            exact Ev.pos c3 hI
          · rw [decide_eq_false c3]
            exact Ev.neg c3 (Ev.now fun _ => rfl)
        · rw [show l[i].f1 = false by simpa using c2]
          exact Ev.neg (by simp) hI
    · rw [if_neg c0, decide_eq_false c0]
      exact Ev.neg (by simp) (Ev.now fun _ => rfl)
theorem holds_ev (l : List S70) (x : List Int) (hl : l.length ≤ 1000000) (hR : ∀ q ∈ l, R64 q.f0.f0 ∧ M64 q.f0.f1 ∧ rightL (-1) q.f0.f1 = true) (hx : I64 x) : Ev (fun k => sequiturref30_Holds.f k l x) (l.all (holdB x)) := by
  have := holds_l0 l x hl hR hx _ 0 rfl (by omega)
  rw [List.drop_zero] at this
  exact this
theorem fitR_R64 (s : Int) : R64 (fitR s).1 := by
  unfold fitR
  split
  · assumption
  · exact ⟨by simp, by simp⟩
def goodI (q : S70) : Prop := R64 q.f0.f0 ∧ M64 q.f0.f1 ∧ rightL (-1) q.f0.f1 = true
theorem shadeD_good (ka : Int) (la : List S68) (kb : Int) (lb : List S68) (low up : Int) (dark : Bool) : goodI ⟨⟨(shadeD ka la kb lb low up dark).1, (shadeD ka la kb lb low up dark).2.1⟩, false⟩ :=
  ⟨fitR_R64 _, linOf_M64 _ 64 (Nat.le_refl _) (fun v _ => fitR_R64 _), linOf_right (fun v => (fitR (shC la lb low up v)).1) 64 (Nat.le_refl _)⟩
theorem rd_ok {l : List S70} {s v i : Int} (h : i ∈ bnd s v l 0) : rd_T70 l i ∈ l ∧ sgD s (cf v (rd_T70 l i)) = true := by
  obtain ⟨_, _, h2, h3, h4⟩ := bnd_at h
  rw [h3]
  exact ⟨List.getElem_mem h2, h4⟩
theorem bnd_of {l : List S70} {s v : Int} {q : S70} (hq : q ∈ l) (hs : sgD s (cf v q) = true) : ∃ i ∈ bnd s v l 0, rd_T70 l i = q := by
  have : q ∈ (bnd s v l 0).map (rd_T70 l) := by rw [bnd_filter]; exact List.mem_filter.2 ⟨hq, hs⟩
  obtain ⟨i, hi, he⟩ := List.mem_map.1 this
  exact ⟨i, hi, he⟩
/-- The shadow of a pair, by small numbers. -/
def shQ (l : List S70) (v : Int) (dark : Bool) (p : Int × Int) : S70 := ⟨⟨shK (rd_T70 l p.1).f0.f0 (rd_T70 l p.2).f0.f0 (cf v (rd_T70 l p.1)) (cf v (rd_T70 l p.2)) dark, linOf (shC (rd_T70 l p.1).f0.f1 (rd_T70 l p.2).f0.f1 (cf v (rd_T70 l p.1)) (cf v (rd_T70 l p.2))) 64⟩, false⟩
theorem goP_small {β : Type} (mk : S70 → Int → Int → β) (l : List S70) (v : Int) (dark : Bool) : ∀ (ps : List (Int × Int)) (acc : List β), (∀ p ∈ ps, smQ (rd_T70 l p.1) ∧ smQ (rd_T70 l p.2)) →
    goP mk l v dark ps acc = (acc ++ ps.map fun p => mk (shQ l v dark p) p.1 p.2, 0) := by
  intro ps
  induction ps with
  | nil => intro acc _; simp [goP]
  | cons p ps ih =>
    intro acc h
    have hp := h p (List.mem_cons_self ..)
    simp only [goP]
    rw [shade_small hp.1 hp.2 v dark]
    simp only [if_true]
    rw [ih _ (fun q hq => h q (List.mem_cons_of_mem _ hq)), List.append_assoc]
    rfl
theorem pairs_mem {l : List S70} {v : Int} {p : Int × Int} (h : p ∈ pairsD l v) : p.1 ∈ bnd (-1) v l 0 ∧ p.2 ∈ bnd 1 v l 0 := by
  unfold pairsD at h
  obtain ⟨i, hi, h⟩ := List.mem_flatMap.1 h
  obtain ⟨k, hk, rfl⟩ := List.mem_map.1 h
  exact ⟨hi, hk⟩
theorem castD_small {β : Type} (mk : S70 → Int → Int → β) (l : List S70) (v : Int) (dark : Bool) (hl : l.length ≤ 12) (hs : ∀ q ∈ l, smQ q) (h0 : 0 ≤ v) (h1 : v < 64) :
    castD mk l v dark = (nonesD mk l v ++ (pairsD l v).map fun p => mk (shQ l v dark p) p.1 p.2, 0) := by
  have hw : wrongB l v = false := by
    unfold wrongB
    rw [decide_eq_false (show ¬ v < 0 by omega), decide_eq_false (show ¬ v ≥ 64 by omega)]
    simp only [Bool.false_or, Bool.not_eq_false', List.all_eq_true]
    intro q hq
    unfold okI
    rw [(hs q hq).1, (hs q hq).2.1]; rfl
  have b0 := bnd_len 0 v l 0
  have b1 := bnd_len (-1) v l 0
  have b2 := bnd_len 1 v l 0
  have hmul : (bnd (-1) v l 0).length * (bnd 1 v l 0).length ≤ 12 * 12 := Nat.mul_le_mul (by omega) (by omega)
  have hcast : ((bnd (-1) v l 0).length : Int) * (bnd 1 v l 0).length = (((bnd (-1) v l 0).length * (bnd 1 v l 0).length : Nat) : Int) := by simp
  unfold castD
  rw [hw, if_neg (by simp), if_neg (by rw [hcast]; omega)]
  exact goP_small mk l v dark _ _ fun p hp => ⟨hs _ (rd_ok (pairs_mem hp).1).1, hs _ (rd_ok (pairs_mem hp).2).1⟩
/-- The inequalities of a shadow. -/
def plD (l : List S70) (v : Int) (dark : Bool) : List S70 := ((bnd 0 v l 0).map (rd_T70 l)) ++ (pairsD l v).map (shQ l v dark)
theorem plain_l0 (L : List S72) (hl : L.length ≤ 1000000) : ∀ (d i : Nat) (acc : List S70), L.length - i = d → i ≤ L.length → acc = (L.take i).map (·.f0) →
    Ev (fun k => sequiturlaw30_plain.l0 k acc L (L.length : Int) i) (L.map (·.f0)) := by
  intro d
  induction d with
  | zero =>
    intro i acc h1 h2 hacc
    rw [List.take_of_length_le (by omega)] at hacc
    subst hacc
    refine Ev.succ ?_
    simp only [sequiturlaw30_plain.l0]
    exact Ev.neg (by omega) (Ev.now fun _ => rfl)
  | succ d ih =>
    intro i acc h1 h2 hacc
    have hi : i < L.length := by omega
    have hrd : rd_T72 L (i : Int) = L[i] := by simp [rd_T72, hi]
    have hal : acc.length ≤ 1000000 := by rw [hacc]; simp; omega
    refine Ev.succ ?_
    simp only [sequiturlaw30_plain.l0]
    rw [hrd, show wrap64 ((i:Int) + 1) = ((i+1 : Nat) : Int) by rw [w64 (by omega) (by omega)]; omega]
    refine Ev.pos (by omega) (Ev.pos (by omega) (Ev.pos (by omega) (Ev.pos (by omega) ?_)))
    exact ih (i+1) (acc ++ [L[i].f0]) (by omega) (by omega) (by rw [hacc, List.take_succ_eq_append_getElem hi, List.map_append]; rfl)
theorem plain_ev (L : List S72) (hl : L.length ≤ 1000000) : Ev (fun k => sequiturlaw30_plain.f k L) (L.map (·.f0)) := by
  have := plain_l0 L hl _ 0 [] rfl (by omega) (by simp)
  exact this
theorem pairs_len (l : List S70) (v : Int) (hl : l.length ≤ 12) : (pairsD l v).length ≤ 144 := by
  have b1 := bnd_len (-1) v l 0
  have b2 := bnd_len 1 v l 0
  have hmul : (bnd (-1) v l 0).length * (bnd 1 v l 0).length ≤ 12 * 12 := Nat.mul_le_mul (by omega) (by omega)
  have : (pairsD l v).length = (bnd (-1) v l 0).length * (bnd 1 v l 0).length := flat_len l v
  omega
theorem plainCast_ev (l : List S70) (v : Int) (dark : Bool) (hl : l.length ≤ 12) (hs : ∀ q ∈ l, smQ q) (h0 : 0 ≤ v) (h1 : v < 64) : Ev (fun k => sequiturlaw30_plain.f k (castD S72.mk l v dark).1) (plD l v dark) := by
  have b0 := bnd_len 0 v l 0
  have b1 := pairs_len l v hl
  rw [castD_small S72.mk l v dark hl hs h0 h1]
  refine (plain_ev _ (by simp [nonesD]; omega)).val ?_
  unfold nonesD plD
  simp only [List.map_append, List.map_map]
  rfl
theorem shQ_good (l : List S70) (v : Int) (dark : Bool) {p : Int × Int} (h1 : smQ (rd_T70 l p.1)) (h2 : smQ (rd_T70 l p.2)) : goodI (shQ l v dark p) := by
  have := shadeD_good (rd_T70 l p.1).f0.f0 (rd_T70 l p.1).f0.f1 (rd_T70 l p.2).f0.f0 (rd_T70 l p.2).f0.f1 (cf v (rd_T70 l p.1)) (cf v (rd_T70 l p.2)) dark
  rw [shade_small h1 h2 v dark] at this
  exact this
theorem smQ_good {q : S70} (hR : R64 q.f0.f0 ∧ M64 q.f0.f1) (h : smQ q) : goodI q := ⟨hR.1, hR.2, h.2.1⟩
theorem plHolds_ev (l : List S70) (v : Int) (x : List Int) (dark : Bool) (hl : l.length ≤ 12) (hs : ∀ q ∈ l, smQ q) (hR : ∀ q ∈ l, R64 q.f0.f0 ∧ M64 q.f0.f1) (hx : I64 x) : Ev (fun k => sequiturref30_Holds.f k (plD l v dark) x) ((plD l v dark).all (holdB x)) := by
  have b0 := bnd_len 0 v l 0
  have b1 := pairs_len l v hl
  refine holds_ev _ x (by unfold plD; simp; omega) (fun q hq => ?_) hx
  unfold plD at hq
  rcases List.mem_append.1 hq with hq | hq
  · obtain ⟨i, hi, rfl⟩ := List.mem_map.1 hq
    exact smQ_good (hR _ (rd_ok hi).1) (hs _ (rd_ok hi).1)
  · obtain ⟨p, hp, rfl⟩ := List.mem_map.1 hq
    exact shQ_good l v dark (hs _ (rd_ok (pairs_mem hp).1).1) (hs _ (rd_ok (pairs_mem hp).2).1)
open Go.ChangeShapes Go.WideShapes
theorem list_of {α : Type} (n : Nat) (p : Nat → α → Prop) (h : ∀ i, i < n → ∃ x, p i x) : ∃ l : List α, l.length = n ∧ ∀ i x, l[i]? = some x → p i x := by
  induction n with
  | zero => exact ⟨[], rfl, by simp⟩
  | succ n ih =>
    obtain ⟨l, hl, hp⟩ := ih (fun i hi => h i (by omega))
    obtain ⟨x, hx⟩ := h n (by omega)
    refine ⟨l ++ [x], by simp [hl], fun i y hy => ?_⟩
    rcases Nat.lt_or_ge i n with q | q
    · rw [List.getElem?_append_left (by omega)] at hy; exact hp i y hy
    · rw [List.getElem?_append_right (by omega)] at hy
      have : i - l.length = 0 := by
        rcases Nat.eq_zero_or_pos (i - l.length) with e | e
        · exact e
        · rw [List.getElem?_eq_none (by simp; omega)] at hy; cases hy
      rw [this] at hy
      obtain rfl : x = y := by simpa using hy
      rw [show i = n by omega]; exact hx
/-- An argument that is a slice, opened: a list of what its elements are. -/
theorem open_row {H : Type} {enc : TypeId × Value → H} {W : World} {held : Bool} {α : Type} (d : Kd α) (Q : α → Prop) {t e : TypeId} {spare : Nat → Bool} {fuel : Nat} {A : Option Addr} {n c : Nat} {x : DataW H × List MemPlace}
    (ht : Try.prog.underlying t = some (.slice e)) (hsz : Try.prog.cellsOf e = d.sz)
    (ho : ∀ m cs y, DataW.trod enc Try.prog W 0 spare held m e cs = some y → ∃ x, d.K W x cs ∧ Q x)
    (h : DataW.trod enc Try.prog W 0 spare held fuel t [.slice A n c] = some x) :
    ∃ l : List α, l.length = n ∧ n ≤ c ∧ c ≤ maxLen ∧ d.C W A n l ∧ ∀ x ∈ l, Q x := by
  rcases Go.Deep.open_slice ht h with ⟨hcs, _⟩ | ⟨a, len, cap, m, n', D, Pl, hcs, _, hl, hm, hmm, _, hi⟩
  · simp at hcs
    obtain ⟨rfl, rfl, rfl⟩ := hcs
    exact ⟨[], rfl, Nat.le_refl _, Nat.zero_le _, Kd.C_nil d W, by simp⟩
  · simp at hcs
    obtain ⟨rfl, rfl, rfl⟩ := hcs
    have hmn : n ≤ m := by rw [hmm]; split <;> omega
    obtain ⟨l, h1, h2⟩ := list_of n (fun i x => (∃ cs, cs.length = d.sz ∧ d.K W x cs ∧ ∀ j u, cs[j]? = some u → W.cell? (a.add (i * d.sz + j)) = some u) ∧ Q x) (fun i hin => by
      obtain ⟨cs, hc, hx⟩ := hi i (by omega)
      obtain ⟨x, hK, hQ⟩ := ho _ _ _ hx
      obtain ⟨_, hlen, hat⟩ := World.cells?_some hc
      refine ⟨x, ⟨cs, hlen.trans hsz, hK, fun j u hj => ?_⟩, hQ⟩
      have hjl : j < cs.length := by
        rcases Nat.lt_or_ge j cs.length with q | q
        · exact q
        · rw [List.getElem?_eq_none q] at hj; cases hj
      rw [← hj, ← hat j (by omega), hsz, Go.Deep.add_add])
    refine ⟨l, h1, hl, hm, ⟨h1, ?_, fun _ => ⟨a, rfl, fun j p hj => (h2 j p hj).1⟩⟩, fun x hx => ?_⟩
    · have : maxLen = 9223372036854775807 := rfl
      omega
    · obtain ⟨i, hi', he⟩ := List.getElem_of_mem hx
      exact (h2 i x (by rw [List.getElem?_eq_getElem hi', he])).2
theorem open_int1 {H : Type} {enc : TypeId × Value → H} {W : World} {held : Bool} {spare : Nat → Bool} {m : Nat} {e : TypeId} (hu : Try.prog.underlying e = some (.int .i64)) (cs : List Value) (y : DataW H × List MemPlace) (h : DataW.trod enc Try.prog W 0 spare held m e cs = some y) :
    ∃ x : Int, (Kd.int .i64).K W x cs ∧ (-9223372036854775808 ≤ x ∧ x ≤ 9223372036854775807) := by
  obtain ⟨n, rfl, _, hw⟩ := DataW.trod_int hu h
  exact ⟨n, rfl, wf64 hw⟩
theorem open_ints1 {H : Type} {enc : TypeId × Value → H} {W : World} {held : Bool} {spare : Nat → Bool} {fuel : Nat} {t e : TypeId} {A : Option Addr} {n c : Nat} {x : DataW H × List MemPlace} (hu : Try.prog.underlying t = some (.slice e)) (he : Try.prog.underlying e = some (.int .i64)) (hc : Try.prog.cellsOf e = 1)
    (h : DataW.trod enc Try.prog W 0 spare held fuel t [.slice A n c] = some x) :
    ∃ l : List Int, l.length = n ∧ n ≤ c ∧ c ≤ maxLen ∧ Kd.C (Kd.int .i64) W A n l ∧ I64 l :=
  open_row (Kd.int .i64) _ hu hc (fun _ cs y h => open_int1 he cs y h) h
/-- A monomial's cells. -/
theorem open_mono {H : Type} {enc : TypeId × Value → H} {W : World} {held : Bool} {spare : Nat → Bool} {m : Nat} (cs : List Value) (y : DataW H × List MemPlace) (h : DataW.trod enc Try.prog W 0 spare held m 68 cs = some y) :
    ∃ x : S68, k68.K W x cs ∧ ((-9223372036854775808 ≤ x.f0 ∧ x.f0 ≤ 9223372036854775807) ∧ -9223372036854775808 ≤ x.f1 ∧ x.f1 ≤ 9223372036854775807) := by
  obtain ⟨y0, y1, n, _, hl, h0, h1⟩ := trod_struct2 Try.underlying68 h
  have e0 : Try.prog.cellsOf 3 = 1 := by kernel_rfl
  have e1 : Try.prog.cellsOf 2 = 1 := by kernel_rfl
  have e2 : Try.prog.cellsOf 68 = 2 := by kernel_rfl
  simp only [e0, e1] at h0 h1
  rw [e2] at hl
  match cs, hl with
  | [c0, c1], _ =>
    obtain ⟨a, ha, _, hw⟩ := DataW.trod_int Try.underlying3 h0
    obtain ⟨b, hb, _, hw2⟩ := DataW.trod_int Try.underlying2 h1
    simp at ha hb
    subst ha hb
    exact ⟨⟨a, b⟩, k68_mk W ⟨a, b⟩, wf64 hw, wf64 hw2⟩
/-- A form's cells. -/
theorem open_lin {H : Type} {enc : TypeId × Value → H} {W : World} {held : Bool} {spare : Nat → Bool} {m : Nat} (cs : List Value) (y : DataW H × List MemPlace) (h : DataW.trod enc Try.prog W 0 spare held m 62 cs = some y) :
    ∃ (x : S62) (A : Option Addr) (c : Nat), cs = [.int .i64 x.f0, .slice A x.f1.length c] ∧ x.f1.length ≤ c ∧ c ≤ maxLen ∧ Kd.C k68 W A x.f1.length x.f1 ∧ R64 x.f0 ∧ M64 x.f1 := by
  obtain ⟨y0, y1, n, _, hl, h0, h1⟩ := trod_struct2 Try.underlying62 h
  have e1 : Try.prog.cellsOf 2 = 1 := by kernel_rfl
  have e0 : Try.prog.cellsOf 60 = 1 := by kernel_rfl
  have e2 : Try.prog.cellsOf 62 = 2 := by kernel_rfl
  simp only [e0, e1] at h0 h1
  rw [e2] at hl
  match cs, hl with
  | [c0, c1], _ =>
    obtain ⟨a, ha, _, hw⟩ := DataW.trod_int Try.underlying2 h0
    simp at ha
    subst ha
    have h2 : DataW.trod enc Try.prog W 0 spare held n 60 [c1] = some y1 := h1
    have hs : ∃ A n c, c1 = .slice A n c := by
      rcases Go.Deep.open_slice Try.underlying60 h2 with ⟨hcs, _⟩ | ⟨a, len, cap, m, n', D, Pl, hcs, _⟩
      · simp at hcs; exact ⟨_, _, _, hcs⟩
      · simp at hcs; exact ⟨_, _, _, hcs⟩
    obtain ⟨A, len, c, rfl⟩ := hs
    obtain ⟨l, rfl, hc, hm, hC, hQ⟩ := open_row k68 _ Try.underlying60 (by kernel_rfl) (fun _ cs y h => open_mono cs y h) h2
    exact ⟨⟨a, l⟩, A, c, rfl, hc, hm, hC, wf64 hw, hQ⟩
/-- An inequality's cells. -/
theorem open_ineq {H : Type} {enc : TypeId × Value → H} {W : World} {held : Bool} {spare : Nat → Bool} {m : Nat} (cs : List Value) (y : DataW H × List MemPlace) (h : DataW.trod enc Try.prog W 0 spare held m 70 cs = some y) :
    ∃ (x : S70) (A : Option Addr) (c : Nat), cs = [.int .i64 x.f0.f0, .slice A x.f0.f1.length c, .bool x.f1] ∧ x.f0.f1.length ≤ c ∧ c ≤ maxLen ∧ Kd.C k68 W A x.f0.f1.length x.f0.f1 ∧ R64 x.f0.f0 ∧ M64 x.f0.f1 := by
  obtain ⟨y0, y1, n, _, hl, h0, h1⟩ := trod_struct2 Try.underlying70 h
  have e1 : Try.prog.cellsOf 4 = 1 := by kernel_rfl
  have e0 : Try.prog.cellsOf 62 = 2 := by kernel_rfl
  have e2 : Try.prog.cellsOf 70 = 3 := by kernel_rfl
  simp only [e0, e1] at h0 h1
  rw [e2] at hl
  match cs, hl with
  | [c0, c1, c2], _ =>
    obtain ⟨b, hb, _⟩ := DataW.trod_bool Try.underlying4 h1
    simp at hb
    subst hb
    obtain ⟨x, A, c, hcs, hc, hm, hC, hr, hM⟩ := open_lin _ _ h0
    simp at hcs
    obtain ⟨rfl, rfl⟩ := hcs
    exact ⟨⟨x, b⟩, A, c, rfl, hc, hm, hC, hr, hM⟩
def Q30 (x : S70) : Prop := R64 x.f0.f0 ∧ M64 x.f0.f1 ∧ x.f0.f1.length ≤ maxLen
theorem open_ineqK {H : Type} {enc : TypeId × Value → H} {W : World} {held : Bool} {spare : Nat → Bool} {m : Nat} (cs : List Value) (y : DataW H × List MemPlace) (h : DataW.trod enc Try.prog W 0 spare held m 70 cs = some y) :
    ∃ x : S70, k70.K W x cs ∧ Q30 x := by
  obtain ⟨x, A, c, rfl, hc, hm, hC, hr, hM⟩ := open_ineq cs y h
  exact ⟨x, k70_mk W x hc hC, hr, hM, Nat.le_trans hc hm⟩
theorem Q30_R {l : List S70} (h : ∀ q ∈ l, Q30 q) : ∀ q ∈ l, R64 q.f0.f0 ∧ M64 q.f0.f1 := fun q hq => ⟨(h q hq).1, (h q hq).2.1⟩
theorem sg_neg {t : Int} : sgD (-1) t = true ↔ t < 0 := by unfold sgD; simp
theorem sg_pos {t : Int} : sgD 1 t = true ↔ 0 < t := by unfold sgD; simp
theorem holdB_le {x : List Int} {q : S70} (h : holdB x q = true) : hV x q ≤ 0 := by
  unfold holdB at h
  simp only [Bool.and_eq_true, decide_eq_true_eq] at h
  exact h.1.2
/-- How many splits a lower bound has. -/
def manyD (b d : Int) : Int := b - ceilD b d
theorem many_eq {b d : Int} (h1 : 0 ≤ b) (h2 : b ≤ 1000) (h3 : 1 ≤ d) (h4 : d ≤ 1000) : shadow_many.f b d = some (manyD b d) := by
  unfold shadow_many.f
  rw [if_neg (by omega)]
  have ht : Int.tdiv b d = b / d := Int.tdiv_eq_ediv_of_nonneg h1
  have hm : Int.tmod b d = b % d := Int.tmod_eq_emod_of_nonneg h1
  have hq0 : 0 ≤ b / d := Int.ediv_nonneg h1 (by omega)
  have hq2 := Int.mul_le_mul_of_nonneg_right h3 hq0
  have hr0 := Int.emod_nonneg b (show d ≠ 0 by omega)
  have hr1 := Int.emod_lt_of_pos b (show 0 < d by omega)
  have he := Int.mul_ediv_add_emod b d
  have hq1 : b / d ≤ b := by omega
  rw [ht, hm]
  simp only [u64w]
  generalize hQ : b / d = q at *
  generalize hRr : b % d = r at *
  have hwq : q % 18446744073709551616 = q := by omega
  by_cases c : r = 0
  · rw [if_pos c]
    have : ceilD b d = q := (ceilD_uniq (K := b) (d := d) (c := q) h3 (by rw [Int.mul_sub, Int.mul_one]; omega) (by omega)).symm
    unfold manyD
    rw [this, hwq]
    congr 1; omega
  · rw [if_neg c]
    have hlt : q + 1 ≤ b := by
      by_cases cd : d = 1
      · subst cd; omega
      · by_cases cb : b = 0
        · subst cb; simp at hRr; omega
        · have : d * q ≥ 2 * q := Int.mul_le_mul_of_nonneg_right (by omega) hq0
          by_cases cq : q = 0
          · omega
          · omega
    have : ceilD b d = q + 1 := (ceilD_uniq (K := b) (d := d) (c := q + 1) h3 (by rw [show q + 1 - 1 = q by omega]; omega) (by rw [Int.mul_add, Int.mul_one]; omega)).symm
    unfold manyD
    rw [this, hwq, show (q + 1) % 18446744073709551616 = q + 1 by omega]
    congr 1; omega
theorem manyD_le {b d : Int} (h1 : 0 ≤ b) (h3 : 1 ≤ d) : 0 ≤ manyD b d ∧ manyD b d ≤ b := by
  obtain ⟨a1, a2⟩ := ceil_law (K := b) h3
  unfold manyD
  constructor
  · have : ceilD b d ≤ b := by
      by_cases c : ceilD b d ≤ b
      · exact c
      · have h2 : 1 * (ceilD b d - 1) ≤ d * (ceilD b d - 1) := Int.mul_le_mul_of_nonneg_right h3 (by omega)
        omega
    omega
  · have : 0 ≤ ceilD b d := by
      by_cases c : 0 ≤ ceilD b d
      · exact c
      · have : d * ceilD b d ≤ 1 * ceilD b d := Int.mul_le_mul_of_nonpos_right h3 (by omega)
        omega
    omega
theorem u64_neg {t : Int} (h1 : -100 ≤ t) (h2 : t ≤ 0) : IntKind.u64.wrap (-(IntKind.u64.wrap t)) = -t := by simp only [u64w]; omega
theorem u64_id {t : Int} (h1 : 0 ≤ t) (h2 : t ≤ 1000000) : IntKind.u64.wrap t = t := by simp only [u64w]; omega
/-- A split of a lower bound. -/
def spS (q : S70) : List S158 := zipS [⟨q.f0.f0, q.f0.f1⟩] [-1]
def spF (q : S70) (i : Int) : S62 := ⟨(sumR (spS q)).1 - i, (sumR (spS q)).2.1⟩
theorem spS_G {q : S70} (hR : R64 q.f0.f0 ∧ M64 q.f0.f1) (hr : rightL (-1) q.f0.f1 = true) : G67 (spS q) :=
  zipS_G67 (fun a ha => by simp at ha; subst ha; exact hR) (by simp [hr]) (by intro y hy; simp at hy; subst hy; exact ⟨by omega, by omega⟩)
theorem spS_ok {q : S70} (hs : smQ q) : (sumR (spS q)).2.2 = 0 ∧ (sumR (spS q)).1 = -q.f0.f0 := by
  have hk : kS (spS q) = -q.f0.f0 := by show q.f0.f0 * -1 + 0 = _; omega
  have hkl := hs.2.2.1
  have hc : fitsC (csum (spS q)) = true := by
    unfold fitsC
    rw [List.all_eq_true]
    intro v _
    have hcf : -100 ≤ coef q.f0.f1 v ∧ coef q.f0.f1 v ≤ 100 := by
      rw [← coefI_coef q.f0.f1 (-1) hs.2.1 (by omega) v]
      exact cf_le hs v
    have : csum (spS q) v = -coef q.f0.f1 v := by show coef q.f0.f1 v * -1 + 0 = _; omega
    rw [this]
    exact decide_eq_true ⟨by omega, by omega⟩
  unfold sumR
  rw [if_pos ⟨by rw [hk]; exact ⟨by omega, by omega⟩, hc⟩]
  exact ⟨rfl, hk⟩
theorem split_ev {q : S70} (hs : smQ q) (hR : R64 q.f0.f0 ∧ M64 q.f0.f1) (hlen : q.f0.f1.length ≤ 1000000) (v i : Int) (h0 : 0 ≤ i) (h1 : i ≤ 1000000) : Ev (fun k => shadow_split.f k q.f0.f0 q.f0.f1 v i) ((spF q i).f0, (spF q i).f1, true) := by
  have hS := Scale_ev q.f0.f0 q.f0.f1 (-1) hR.1 hR.2 ⟨by omega, by omega⟩ (by omega)
  have hd : sumD [⟨q.f0.f0, q.f0.f1⟩] [-1] = sumR (spS q) := sumD_right (by simp [hs.2.1]) rfl
  rw [hd] at hS
  obtain ⟨ok, hk⟩ := spS_ok hs
  have hkl := hs.2.2.1
  refine Ev.bind hS (Ev.pos ok ?_)
  rw [hk, Sub_eq (by omega) (by omega) (by omega) (by omega)]
  have hf : fitI (-q.f0.f0 - i) = (-q.f0.f0 - i, true) := by rw [fitI_R]; exact fitR_in ⟨by omega, by omega⟩
  rw [hf]
  unfold spF
  rw [hk]
  exact Ev.bind (Ev.now fun _ => rfl) (Ev.now fun _ => rfl)
theorem spF_good {q : S70} (hs : smQ q) {i : Int} (h0 : 0 ≤ i) (h1 : i ≤ 1000000) : R64 (spF q i).f0 ∧ M64 (spF q i).f1 ∧ rightL (-1) (spF q i).f1 = true := by
  have hf := sumR_fine (spS q)
  have hk := (spS_ok hs).2
  have hkl := hs.2.2.1
  refine ⟨?_, hf.2.1, hf.2.2.2⟩
  unfold spF
  rw [hk]
  exact ⟨by show _ ≤ -q.f0.f0 - i; omega, by show -q.f0.f0 - i ≤ _; omega⟩
theorem spF_val {q : S70} (hs : smQ q) (hR : R64 q.f0.f0 ∧ M64 q.f0.f1) (x : List Int) (i : Int) : (spF q i).f0 + valL (spF q i).f1 x = -hV x q - i := by
  have hv := sumR_val x (spS q) (spS_G hR hs.2.1) (spS_ok hs).1
  have he : vS x (spS q) = -hV x q := by
    show (q.f0.f0 + valL q.f0.f1 x) * -1 + 0 = -hV x q
    unfold hV; omega
  rw [he] at hv
  unfold spF
  show (sumR (spS q)).1 - i + valL (sumR (spS q)).2.1 x = _
  omega
/-- The greatest number of times; how many splits; the splits. -/
def spL (l : List S70) (v d : Int) (i : Int) : List S62 := if -cf v (rd_T70 l i) < 2 then [] else (List.range (manyD (-cf v (rd_T70 l i)) d).toNat).map fun (j : Nat) => spF (rd_T70 l i) j
section
variable (l : List S70) (v : Int) (hs : ∀ q ∈ l, smQ q) (hR : ∀ q ∈ l, R64 q.f0.f0 ∧ M64 q.f0.f1) (hm : ∀ q ∈ l, q.f0.f1.length ≤ 1000000)
include hs hR hm
theorem splits_l3 (d : Int) (R : List S62 × Int) (i : Int) (h0 : 0 ≤ i) (hi : i < l.length) (hmem : rd_T70 l i ∈ l) (L : List Int) (n p : Int) (m : Nat) (hm100 : m ≤ 1000) (acc0 : List S62) (h : ∀ acc : List S62, acc = acc0 ++ (List.range m).map (fun (j : Nat) => spF (rd_T70 l i) j) → Ev (fun k => shadow_Splits.l2 k l v d acc L n (wrap64 (p + 1))) R) (ha0 : acc0.length ≤ 50000) :
    ∀ (e j : Nat) (acc : List S62), m - j = e → j ≤ m → acc = acc0 ++ (List.range j).map (fun (j : Nat) => spF (rd_T70 l i) j) → Ev (fun k => shadow_Splits.l3 k l v d acc i L n p (m : Int) j) R := by
  intro e
  induction e with
  | zero =>
    intro j acc h1 h2 hacc
    obtain rfl : j = m := by omega
    refine Ev.succ ?_
    simp only [shadow_Splits.l3]
    exact Ev.neg (by omega) (h acc hacc)
  | succ e ih =>
    intro j acc h1 h2 hacc
    have hal : acc.length ≤ 100000 := by rw [hacc]; simp; omega
    have hsp := split_ev (hs _ hmem) (hR _ hmem) (hm _ hmem) v j (by omega) (by omega)
    refine Ev.succ ?_
    simp only [shadow_Splits.l3]
    rw [show wrap64 (j : Int) = (j : Int) by rw [w64 (by omega) (by omega)], show IntKind.u64.wrap ((j : Int) + 1) = ((j + 1 : Nat) : Int) by simp only [u64w]; omega]
    refine Ev.pos (by omega) (Ev.pos h0 (Ev.pos hi (Ev.bind hsp (Ev.pos rfl (Ev.pos (by omega) ?_)))))
    refine ih (j+1) _ (by omega) (by omega) ?_
    rw [hacc, List.range_succ, List.map_append, List.append_assoc]; rfl
theorem splits_l2 (d : Int) (hd1 : 2 ≤ d) (hd2 : d ≤ 100) (L : List Int) (hL : L.length ≤ 12) (hmem : ∀ i ∈ L, 0 ≤ i ∧ i < l.length ∧ rd_T70 l i ∈ l ∧ cf v (rd_T70 l i) < 0) : ∀ (e j : Nat) (acc : List S62), L.length - j = e → j ≤ L.length → acc.length ≤ j * 200 →
    Ev (fun k => shadow_Splits.l2 k l v d acc L (L.length : Int) j) (acc ++ (L.drop j).flatMap (spL l v d), 0) := by
  intro e
  induction e with
  | zero =>
    intro j acc h1 h2 h3
    rw [List.drop_eq_nil_of_le (by omega)]
    refine Ev.succ ?_
    simp only [shadow_Splits.l2]
    exact Ev.neg (by omega) (Ev.now fun _ => by simp)
  | succ e ih =>
    intro j acc h1 h2 h3
    have hj : j < L.length := by omega
    obtain ⟨i0, i1, i2, i3⟩ := hmem _ (List.getElem_mem hj)
    have hc := cf_le (hs _ i2) v
    have hlen9 : (rd_T70 l L[j]).f0.f1.length ≤ 9223372036854775807 := by have := hm _ i2; omega
    have hB : Ev (fun k => lin_By.f k (rd_T70 l L[j]).f0.f0 (rd_T70 l L[j]).f0.f1 v) (cf v (rd_T70 l L[j])) := linBy_ev (rd_T70 l L[j]).f0.f0 (rd_T70 l L[j]).f0.f1 v hlen9
    rw [List.drop_eq_getElem_cons hj, List.flatMap_cons, ← List.append_assoc]
    refine Ev.succ ?_
    simp only [shadow_Splits.l2]
    rw [show rd L (j : Int) = L[j] from rd_at _ j hj]
    refine Ev.pos (by omega) (Ev.pos (by omega) (Ev.pos (by omega) (Ev.pos i0 (Ev.pos i1 (Ev.bind hB ?_)))))
    rw [u64_neg hc.1 (by omega), u64_id (by omega) (by omega)]
    by_cases c : -cf v (rd_T70 l L[j]) < 2
    · rw [show spL l v d L[j] = [] from if_pos c, List.append_nil]
      refine Ev.pos c ?_
      rw [show wrap64 ((j:Int) + 1) = ((j+1 : Nat) : Int) by rw [w64 (by omega) (by omega)]; omega]
      exact ih (j+1) acc (by omega) (by omega) (by omega)
    · rw [show spL l v d L[j] = (List.range (manyD (-cf v (rd_T70 l L[j])) d).toNat).map fun (i : Nat) => spF (rd_T70 l L[j]) i from if_neg c]
      have hmd := manyD_le (b := -cf v (rd_T70 l L[j])) (d := d) (by omega) (by omega)
      refine Ev.neg c ?_
      rw [many_eq (by omega) (by omega) (by omega) (by omega)]
      refine Ev.bind (Ev.now fun _ => rfl) ?_
      obtain ⟨m, hmm⟩ : ∃ m : Nat, m = (manyD (-cf v (rd_T70 l L[j])) d).toNat := ⟨_, rfl⟩
      have hmi : manyD (-cf v (rd_T70 l L[j])) d = (m : Int) := by omega
      rw [hmi, show ((m : Int)).toNat = m by omega]
      refine splits_l3 l v hs hR hm d _ L[j] i0 i1 i2 L (L.length : Int) j m (by omega) acc (fun acc' hacc => ?_) (by omega) _ 0 acc rfl (by omega) (by simp)
      rw [show wrap64 ((j:Int) + 1) = ((j+1 : Nat) : Int) by rw [w64 (by omega) (by omega)]; omega, hacc]
      exact ih (j+1) _ (by omega) (by omega) (by simp; omega)
theorem splits_l1 (hl : l.length ≤ 12) (d : Int) (hd1 : 2 ≤ d) (hd2 : d ≤ 100) : ∀ (e j : Nat) (n : Int), (bnd (-1) v l 0).length - j = e → j ≤ (bnd (-1) v l 0).length → 0 ≤ n → n ≤ j * 2000 →
    ∃ s e', Ev (fun k => shadow_Splits.l1 k l v d n (bnd (-1) v l 0) ((bnd (-1) v l 0).length : Int) j l v) (s, e') ∧ (e' = 2 ∨ (e' = 0 ∧ s = (bnd (-1) v l 0).flatMap (spL l v d))) := by
  have hbl := bnd_len (-1) v l 0
  have hmem : ∀ i ∈ bnd (-1) v l 0, 0 ≤ i ∧ i < l.length ∧ rd_T70 l i ∈ l ∧ cf v (rd_T70 l i) < 0 := fun i hi => ⟨(bnd_at hi).1, (bnd_at hi).2.1, (rd_ok hi).1, sg_neg.1 (rd_ok hi).2⟩
  have hm9 : ∀ q ∈ l, q.f0.f1.length ≤ 9223372036854775807 := fun q hq => by have := hm q hq; omega
  intro e
  induction e with
  | zero =>
    intro j n h1 h2 h3 h4
    by_cases c : n > 1024
    · refine ⟨[], 2, Ev.succ ?_, .inl rfl⟩
      simp only [shadow_Splits.l1]
      exact Ev.neg (by omega) (Ev.pos c (Ev.now fun _ => rfl))
    · have := splits_l2 l v hs hR hm d hd1 hd2 (bnd (-1) v l 0) (by omega) hmem _ 0 [] rfl (by omega) (by simp)
      refine ⟨_, 0, Ev.succ ?_, .inr ⟨rfl, rfl⟩⟩
      simp only [shadow_Splits.l1]
      refine Ev.neg (by omega) (Ev.neg c (Ev.bind (bounds_ev (-1) l v (by omega) hm9) ?_))
      simpa using this
  | succ e ih =>
    intro j n h1 h2 h3 h4
    have hj : j < (bnd (-1) v l 0).length := by omega
    obtain ⟨i0, i1, i2, i3⟩ := hmem _ (List.getElem_mem hj)
    have hc := cf_le (hs _ i2) v
    have hlen9 : (rd_T70 l (bnd (-1) v l 0)[j]).f0.f1.length ≤ 9223372036854775807 := by have := hm _ i2; omega
    have hB : Ev (fun k => lin_By.f k (rd_T70 l (bnd (-1) v l 0)[j]).f0.f0 (rd_T70 l (bnd (-1) v l 0)[j]).f0.f1 v) (cf v (rd_T70 l (bnd (-1) v l 0)[j])) := linBy_ev (rd_T70 l (bnd (-1) v l 0)[j]).f0.f0 (rd_T70 l (bnd (-1) v l 0)[j]).f0.f1 v hlen9
    by_cases c : -cf v (rd_T70 l (bnd (-1) v l 0)[j]) ≥ 2
    · have hmd := manyD_le (b := -cf v (rd_T70 l (bnd (-1) v l 0)[j])) (d := d) (by omega) (by omega)
      have hmn : 0 ≤ mn (manyD (-cf v (rd_T70 l (bnd (-1) v l 0)[j])) d) 1025 ∧ mn (manyD (-cf v (rd_T70 l (bnd (-1) v l 0)[j])) d) 1025 ≤ 1025 := by unfold mn; split <;> omega
      obtain ⟨s, e', hE, hP⟩ := ih (j+1) (n + mn (manyD (-cf v (rd_T70 l (bnd (-1) v l 0)[j])) d) 1025) (by omega) (by omega) (by omega) (by omega)
      refine ⟨s, e', Ev.succ ?_, hP⟩
      simp only [shadow_Splits.l1]
      rw [show rd (bnd (-1) v l 0) (j : Int) = (bnd (-1) v l 0)[j] from rd_at _ j hj]
      refine Ev.pos (by omega) (Ev.pos (by omega) (Ev.pos (by omega) (Ev.pos i0 (Ev.pos i1 (Ev.bind hB ?_)))))
      rw [u64_neg hc.1 (by omega), u64_id (by omega) (by omega), many_eq (by omega) (by omega) (by omega) (by omega)]
      refine Ev.pos c (Ev.bind (Ev.now fun _ => rfl) ?_)
      rw [show wrap64 ((j:Int) + 1) = ((j+1 : Nat) : Int) by rw [w64 (by omega) (by omega)]; omega, u64_id (by omega) (by omega)]
      exact hE
    · obtain ⟨s, e', hE, hP⟩ := ih (j+1) n (by omega) (by omega) (by omega) (by omega)
      refine ⟨s, e', Ev.succ ?_, hP⟩
      simp only [shadow_Splits.l1]
      rw [show rd (bnd (-1) v l 0) (j : Int) = (bnd (-1) v l 0)[j] from rd_at _ j hj]
      refine Ev.pos (by omega) (Ev.pos (by omega) (Ev.pos (by omega) (Ev.pos i0 (Ev.pos i1 (Ev.bind hB ?_)))))
      rw [u64_neg hc.1 (by omega), show wrap64 ((j:Int) + 1) = ((j+1 : Nat) : Int) by rw [w64 (by omega) (by omega)]; omega]
      exact Ev.neg c hE
theorem splits_l0 (hl : l.length ≤ 12) : ∀ (e j : Nat) (a : Int), (bnd 1 v l 0).length - j = e → j ≤ (bnd 1 v l 0).length → a ≤ 100 →
    ∃ s e' D, Ev (fun k => shadow_Splits.l0 k l v a (bnd 1 v l 0) ((bnd 1 v l 0).length : Int) j l v) (s, e') ∧ a ≤ D ∧ D ≤ 100 ∧ (∀ i ∈ (bnd 1 v l 0).drop j, cf v (rd_T70 l i) ≤ D) ∧ (e' = 2 ∨ (e' = 0 ∧ ((D < 2 ∧ s = []) ∨ (2 ≤ D ∧ s = (bnd (-1) v l 0).flatMap (spL l v D))))) := by
  have hbl := bnd_len 1 v l 0
  have hmem : ∀ i ∈ bnd 1 v l 0, 0 ≤ i ∧ i < l.length ∧ rd_T70 l i ∈ l := fun i hi => ⟨(bnd_at hi).1, (bnd_at hi).2.1, (rd_ok hi).1⟩
  have hm9 : ∀ q ∈ l, q.f0.f1.length ≤ 9223372036854775807 := fun q hq => by have := hm q hq; omega
  intro e
  induction e with
  | zero =>
    intro j a h1 h2 h3
    rw [List.drop_eq_nil_of_le (by omega)]
    by_cases c : a < 2
    · refine ⟨[], 0, a, Ev.succ ?_, Int.le_refl _, h3, fun i hi => by simp at hi, .inr ⟨rfl, .inl ⟨c, rfl⟩⟩⟩
      simp only [shadow_Splits.l0]
      exact Ev.neg (by omega) (Ev.pos c (Ev.now fun _ => rfl))
    · obtain ⟨s, e', hE, hP⟩ := splits_l1 l v hs hR hm hl a (by omega) h3 _ 0 0 rfl (by omega) (by omega) (by omega)
      refine ⟨s, e', a, Ev.succ ?_, Int.le_refl _, h3, fun i hi => by simp at hi, hP.imp id fun h => ⟨h.1, .inr ⟨by omega, h.2⟩⟩⟩
      simp only [shadow_Splits.l0]
      exact Ev.neg (by omega) (Ev.neg c (Ev.bind (bounds_ev (-1) l v (by omega) hm9) hE))
  | succ e ih =>
    intro j a h1 h2 h3
    have hj : j < (bnd 1 v l 0).length := by omega
    obtain ⟨i0, i1, i2⟩ := hmem _ (List.getElem_mem hj)
    have hc := cf_le (hs _ i2) v
    have hlen9 : (rd_T70 l (bnd 1 v l 0)[j]).f0.f1.length ≤ 9223372036854775807 := by have := hm _ i2; omega
    have hB : Ev (fun k => lin_By.f k (rd_T70 l (bnd 1 v l 0)[j]).f0.f0 (rd_T70 l (bnd 1 v l 0)[j]).f0.f1 v) (cf v (rd_T70 l (bnd 1 v l 0)[j])) := linBy_ev (rd_T70 l (bnd 1 v l 0)[j]).f0.f0 (rd_T70 l (bnd 1 v l 0)[j]).f0.f1 v hlen9
    have hmx : mx a (cf v (rd_T70 l (bnd 1 v l 0)[j])) ≤ 100 ∧ a ≤ mx a (cf v (rd_T70 l (bnd 1 v l 0)[j])) ∧ cf v (rd_T70 l (bnd 1 v l 0)[j]) ≤ mx a (cf v (rd_T70 l (bnd 1 v l 0)[j])) := by unfold mx; split <;> omega
    obtain ⟨s, e', D, hE, d1, d2, d3, hP⟩ := ih (j+1) (mx a (cf v (rd_T70 l (bnd 1 v l 0)[j]))) (by omega) (by omega) hmx.1
    refine ⟨s, e', D, Ev.succ ?_, by omega, d2, ?_, hP⟩
    · simp only [shadow_Splits.l0]
      rw [show rd (bnd 1 v l 0) (j : Int) = (bnd 1 v l 0)[j] from rd_at _ j hj]
      refine Ev.pos (by omega) (Ev.pos (by omega) (Ev.pos (by omega) (Ev.pos i0 (Ev.pos i1 (Ev.bind hB ?_)))))
      rw [show wrap64 ((j:Int) + 1) = ((j+1 : Nat) : Int) by rw [w64 (by omega) (by omega)]; omega]
      exact hE
    · rw [List.drop_eq_getElem_cons hj]
      intro i hi
      rcases List.mem_cons.1 hi with rfl | hi
      · omega
      · exact d3 i hi
theorem splits_ev (hl : l.length ≤ 12) (h0 : 0 ≤ v) (h1 : v < 64) : ∃ s e' D, Ev (fun k => shadow_Splits.f k l v) (s, e') ∧ D ≤ 100 ∧ (∀ q ∈ l, 0 < cf v q → cf v q ≤ D) ∧ (e' = 2 ∨ (e' = 0 ∧ ((D < 2 ∧ s = []) ∨ (2 ≤ D ∧ s = (bnd (-1) v l 0).flatMap (spL l v D))))) := by
  have hm9 : ∀ q ∈ l, q.f0.f1.length ≤ 9223372036854775807 := fun q hq => by have := hm q hq; omega
  obtain ⟨s, e', D, hE, _, d2, d3, hP⟩ := splits_l0 l v hs hR hm hl _ 0 0 rfl (by omega) (by omega)
  have hw : wrongB l v = false := by
    unfold wrongB
    rw [decide_eq_false (show ¬ v < 0 by omega), decide_eq_false (show ¬ v ≥ 64 by omega)]
    simp only [Bool.false_or, Bool.not_eq_false', List.all_eq_true]
    intro q hq
    unfold okI
    rw [(hs q hq).1, (hs q hq).2.1]; rfl
  have hW := wrong_ev l v (by omega) hm9
  rw [hw] at hW
  refine ⟨s, e', D, Ev.bind hW (Ev.neg (by simp) (Ev.bind (bounds_ev 1 l v (by omega) hm9) hE)), d2, fun q hq hc => ?_, hP⟩
  obtain ⟨i, hi, he⟩ := bnd_of hq (sg_pos.2 hc)
  have := d3 i (by simpa using hi)
  rwa [he] at this
end
theorem split_law {b u D j : Int} (hb : 1 ≤ b) (hu : 1 ≤ u) (hj : 0 ≤ j) (h : u * j < (b - 1) * (u - 1)) (hD : u ≤ D) : 2 ≤ b ∧ 2 ≤ u ∧ j < manyD b D := by
  have huj : 0 ≤ u * j := Int.mul_nonneg (by omega) hj
  have h2 : 2 ≤ b := by
    by_cases c : b = 1
    · subst c; simp at h; omega
    · omega
  have h3 : 2 ≤ u := by
    by_cases c : u = 1
    · subst c; simp at h; omega
    · omega
  refine ⟨h2, h3, ?_⟩
  have hx : (b - 1) * (u - 1) = u * b - b - u + 1 := by rw [Int.sub_mul, Int.mul_sub, Int.mul_comm b u]; omega
  have he : u * (b - 1 - j) = u * b - u - u * j := by rw [Int.mul_sub, Int.mul_sub]; omega
  have hp : 0 ≤ b - 1 - j := by
    by_cases c : 0 ≤ b - 1 - j
    · exact c
    · have : u * (b - 1 - j) ≤ u * 0 := Int.mul_le_mul_of_nonneg_left (by omega) (by omega)
      omega
  have hd := Int.mul_le_mul_of_nonneg_right hD hp
  obtain ⟨c1, _⟩ := ceil_law (K := b) (show 1 ≤ D by omega)
  have := Int.lt_of_mul_lt_mul_left (show D * (ceilD b D - 1) < D * (b - 1 - j) by omega) (by omega)
  unfold manyD
  omega
theorem shQ_hV (l : List S70) (v : Int) (x : List Int) (dark : Bool) {p : Int × Int} (h1 : smQ (rd_T70 l p.1)) (h2 : smQ (rd_T70 l p.2)) :
    hV x (shQ l v dark p) = cf v (rd_T70 l p.2) * hV x (rd_T70 l p.1) - cf v (rd_T70 l p.1) * hV x (rd_T70 l p.2) + (if dark = true then (-1 - cf v (rd_T70 l p.1)) * (cf v (rd_T70 l p.2) - 1) else 0) := by
  unfold hV shQ
  rw [shade_val dark h1.2.1 h2.2.1]
theorem bndP {a b A B : Int} (h1 : -A ≤ a) (h2 : a ≤ A) (h3 : -B ≤ b) (h4 : b ≤ B) (hA : A = 101) (hB : B = 6401000) : -646501000 ≤ a * b ∧ a * b ≤ 646501000 := by
  subst hA hB
  have h := Nat.mul_le_mul (show a.natAbs ≤ 101 by omega) (show b.natAbs ≤ 6401000 by omega)
  rw [← Int.natAbs_mul] at h
  omega
theorem shQ_R (l : List S70) (v : Int) {x : List Int} (hx : smX x) (dark : Bool) {p : Int × Int} (h1 : smQ (rd_T70 l p.1)) (h2 : smQ (rd_T70 l p.2)) : R64 (hV x (shQ l v dark p)) := by
  rw [shQ_hV l v x dark h1 h2]
  have a1 := cf_le h1 v
  have a2 := cf_le h2 v
  have b1 := hV_le hx h1
  have b2 := hV_le hx h2
  have c1 := bndP (a := cf v (rd_T70 l p.2)) (b := hV x (rd_T70 l p.1)) (A := 101) (B := 6401000) (by omega) (by omega) (by omega) (by omega) rfl rfl
  have c2 := bndP (a := cf v (rd_T70 l p.1)) (b := hV x (rd_T70 l p.2)) (A := 101) (B := 6401000) (by omega) (by omega) (by omega) (by omega) rfl rfl
  have c3 := bndP (a := -1 - cf v (rd_T70 l p.1)) (b := cf v (rd_T70 l p.2) - 1) (A := 101) (B := 6401000) (by omega) (by omega) (by omega) (by omega) rfl rfl
  split
  · exact ⟨by omega, by omega⟩
  · exact ⟨by omega, by omega⟩
theorem holdB_shQ {l : List S70} {v : Int} {x : List Int} (hx : smX x) {dark : Bool} {p : Int × Int} (h1 : smQ (rd_T70 l p.1)) (h2 : smQ (rd_T70 l p.2)) : holdB x (shQ l v dark p) = decide (hV x (shQ l v dark p) ≤ 0) := by
  unfold holdB
  rw [decide_eq_true (shQ_R l v hx dark h1 h2), show (shQ l v dark p).f1 = false from rfl]
  simp
theorem real_ok {l : List S70} {v : Int} {x : List Int} (hx : smX x) (hs : ∀ q ∈ l, smQ q) (h : l.all (holdB x) = true) : (plD l v false).all (holdB x) = true := by
  rw [List.all_eq_true] at h ⊢
  intro m hm
  unfold plD at hm
  rcases List.mem_append.1 hm with hm | hm
  · obtain ⟨i, hi, rfl⟩ := List.mem_map.1 hm
    exact h _ (rd_ok hi).1
  · obtain ⟨p, hp, rfl⟩ := List.mem_map.1 hm
    have r1 := rd_ok (pairs_mem hp).1
    have r2 := rd_ok (pairs_mem hp).2
    rw [holdB_shQ hx (hs _ r1.1) (hs _ r2.1), shQ_hV l v x false (hs _ r1.1) (hs _ r2.1)]
    have v1 := holdB_le (h _ r1.1)
    have v2 := holdB_le (h _ r2.1)
    have c1 := sg_neg.1 r1.2
    have c2 := sg_pos.1 r2.2
    have m1 : cf v (rd_T70 l p.2) * hV x (rd_T70 l p.1) ≤ cf v (rd_T70 l p.2) * 0 := Int.mul_le_mul_of_nonneg_left v1 (by omega)
    have m2 : cf v (rd_T70 l p.1) * 0 ≤ cf v (rd_T70 l p.1) * hV x (rd_T70 l p.2) := Int.mul_le_mul_of_nonpos_left (by omega) v2
    exact decide_eq_true (by simp only [Bool.false_eq_true, if_false]; omega)
theorem dark_bad {l : List S70} {v : Int} {x : List Int} (hx : smX x) (hs : ∀ q ∈ l, smQ q) (h : l.all (holdB x) = true) (hd : (plD l v true).all (holdB x) = false) :
    ∃ i ∈ bnd (-1) v l 0, ∃ q ∈ l, 0 < cf v q ∧ 0 ≤ -hV x (rd_T70 l i) ∧ cf v q * (-hV x (rd_T70 l i)) < (-cf v (rd_T70 l i) - 1) * (cf v q - 1) := by
  rw [List.all_eq_true] at h
  rw [List.all_eq_false] at hd
  obtain ⟨m, hm, hb⟩ := hd
  unfold plD at hm
  rcases List.mem_append.1 hm with hm | hm
  · obtain ⟨i, hi, rfl⟩ := List.mem_map.1 hm
    exact absurd (h _ (rd_ok hi).1) hb
  · obtain ⟨p, hp, rfl⟩ := List.mem_map.1 hm
    have r1 := rd_ok (pairs_mem hp).1
    have r2 := rd_ok (pairs_mem hp).2
    rw [holdB_shQ hx (hs _ r1.1) (hs _ r2.1), shQ_hV l v x true (hs _ r1.1) (hs _ r2.1)] at hb
    have v1 := holdB_le (h _ r1.1)
    have v2 := holdB_le (h _ r2.1)
    have c1 := sg_neg.1 r1.2
    have c2 := sg_pos.1 r2.2
    refine ⟨p.1, (pairs_mem hp).1, rd_T70 l p.2, r2.1, c2, by omega, ?_⟩
    have m2 : cf v (rd_T70 l p.1) * 0 ≤ cf v (rd_T70 l p.1) * hV x (rd_T70 l p.2) := Int.mul_le_mul_of_nonpos_left (by omega) v2
    simp at hb
    rw [Int.mul_neg, show (-cf v (rd_T70 l p.1) - 1) = -1 - cf v (rd_T70 l p.1) by omega]
    omega
theorem lawHolds_l0 (x : List Int) (hx : I64 x) (s : List S62) (hl : s.length ≤ 1000000) (hg : ∀ t ∈ s, R64 t.f0 ∧ M64 t.f1 ∧ rightL (-1) t.f1 = true) : ∀ (e j : Nat), s.length - j = e → (∃ t ∈ s.drop j, t.f0 + valL t.f1 x = 0) →
    Ev (fun k => sequiturlaw30_ShadowHolds.l0 k x s (s.length : Int) j) true := by
  intro e
  induction e with
  | zero =>
    intro j h1 ⟨t, ht, _⟩
    rw [List.drop_eq_nil_of_le (by omega)] at ht
    simp at ht
  | succ e ih =>
    intro j h1 hex
    have hj : j < s.length := by omega
    obtain ⟨g1, g2, g3⟩ := hg _ (List.getElem_mem hj)
    have hlen := rightL_len s[j].f1 (-1) (by omega) g3
    have hE := refEval27_ev s[j].f0 s[j].f1 x g1 g2 hx (by omega)
    rw [if_pos g3, evR_of] at hE
    have hr : rd_T62 s (j : Int) = s[j] := by simp [rd_T62, hj]
    refine Ev.succ ?_
    simp only [sequiturlaw30_ShadowHolds.l0]
    rw [hr, show wrap64 ((j:Int) + 1) = ((j+1 : Nat) : Int) by rw [w64 (by omega) (by omega)]; omega]
    refine Ev.pos (by omega) (Ev.pos (by omega) (Ev.pos (by omega) (Ev.bind hE ?_)))
    by_cases c : s[j].f0 + valL s[j].f1 x = 0
    · rw [c]
      refine Ev.pos (by decide) (Ev.pos (by decide) (Ev.now fun _ => rfl))
    · have hI := ih (j+1) (by omega) (by
        obtain ⟨t, ht, h0⟩ := hex
        rw [List.drop_eq_getElem_cons hj] at ht
        rcases List.mem_cons.1 ht with rfl | ht
        · exact absurd h0 c
        · exact ⟨t, ht, h0⟩)
      unfold evR
      by_cases r : R64 (s[j].f0 + valL s[j].f1 x)
      · rw [if_pos r]
        exact Ev.pos rfl (Ev.neg c hI)
      · rw [if_neg r]
        exact Ev.neg (by simp) hI
theorem ShadowHolds_pure (l : List S70) (x : List Int) (hQ : ∀ q ∈ l, Q30 q) (hxI : I64 x) (hlm : l.length ≤ maxLen) : ∃ k, sequiturlaw30_ShadowHolds.f k l x = some true := by
  have hR := Q30_R hQ
  obtain ⟨b, hb, hp⟩ := small_ev l x (fun q hq => (hR q hq).1)
  refine Ev.at_ (f := fun k => sequiturlaw30_ShadowHolds.f k l x) (Ev.bind alive30_ev (Ev.pos rfl (Ev.bind hb ?_)))
  have hout : Ev (fun k => sequiturlaw30_ShadowHolds.j0 k l x true) true := by
    refine Ev.succ ?_
    simp only [sequiturlaw30_ShadowHolds.j0]
    exact Ev.pos trivial (Ev.now fun _ => rfl)
  by_cases cb : b = true
  · obtain ⟨hs, hx, n1, n2, n3, n4⟩ := hp cb
    refine Ev.pos cb ?_
    obtain ⟨n, hn⟩ : ∃ n : Nat, n = x.length - 1 := ⟨_, rfl⟩
    have hw : wrap64 ((x.length : Int) - 1) = (n : Int) := by rw [w64 (by omega) (by omega)]; omega
    have hnl : n < x.length := by omega
    have hm : ∀ q ∈ l, q.f0.f1.length ≤ 9223372036854775807 := fun q hq => by have := n2 q hq; omega
    have hm2 : ∀ q ∈ l, q.f0.f1.length ≤ 1000000 := fun q hq => by have := n2 q hq; omega
    refine Ev.bind (holds_ev l x (by omega) (fun q hq => smQ_good (hR q hq) (hs q hq)) hxI) ?_
    by_cases cH : l.all (holdB x) = true
    · rw [cH]
      refine Ev.succ ?_
      simp only [sequiturlaw30_ShadowHolds.j0]
      refine Ev.neg (by simp) ?_
      rw [hw]
      refine Ev.bind (real_ev l n (by omega) hR hm) (Ev.bind (dark_ev l n (by omega) hR hm) ?_)
      have er : (castD S72.mk l n false).2 = 0 := by rw [castD_small S72.mk l n false n1 hs (by omega) (by omega)]
      have ed : (castD S72.mk l n true).2 = 0 := by rw [castD_small S72.mk l n true n1 hs (by omega) (by omega)]
      refine Ev.pos er (Ev.pos ed (Ev.bind (plainCast_ev l n false n1 hs (by omega) (by omega)) (Ev.bind (plHolds_ev l n x false n1 hs hR hxI) ?_)))
      rw [real_ok hx hs cH]
      refine Ev.succ ?_
      simp only [sequiturlaw30_ShadowHolds.j1]
      refine Ev.neg (by simp) (Ev.bind (plainCast_ev l n true n1 hs (by omega) (by omega)) (Ev.bind (plHolds_ev l n x true n1 hs hR hxI) ?_))
      by_cases cD : (plD l n true).all (holdB x) = true
      · exact Ev.pos cD (Ev.now fun _ => rfl)
      · refine Ev.neg cD ?_
        obtain ⟨i, hi, q, hq, u0, j0, hlt⟩ := dark_bad hx hs cH (by simpa using cD)
        obtain ⟨s, e', D, hE, d1, d2, hP⟩ := splits_ev l n hs hR hm2 n1 (by omega) (by omega)
        have r1 := rd_ok hi
        have hcn := sg_neg.1 r1.2
        obtain ⟨s1, s2, s3⟩ := split_law (b := -cf n (rd_T70 l i)) (u := cf n q) (D := D) (j := -hV x (rd_T70 l i)) (by omega) (by omega) j0 hlt (d2 q hq u0)
        have hd2 := d2 q hq u0
        refine Ev.bind hE ?_
        rcases hP with rfl | ⟨rfl, ⟨hD, _⟩ | ⟨_, rfl⟩⟩
        · exact Ev.neg (by simp) (Ev.now fun _ => rfl)
        · omega
        · have hbl := bnd_len (-1) n l 0
          have hmd : ∀ i ∈ bnd (-1) n l 0, (spL l n D i).length ≤ 100 := by
            intro i hi
            unfold spL
            split
            · simp
            · have hcc := cf_le (hs _ (rd_ok hi).1) n
              have := manyD_le (b := -cf n (rd_T70 l i)) (d := D) (by omega) (by omega)
              simp; omega
          have hfl : ∀ L : List Int, (∀ i ∈ L, (spL l n D i).length ≤ 100) → (L.flatMap (spL l n D)).length ≤ L.length * 100 := by
            intro L
            induction L with
            | nil => intro _; simp
            | cons a L ih =>
              intro h
              have h1 := ih fun i hi => h i (List.mem_cons_of_mem _ hi)
              have h2 := h a (List.mem_cons_self ..)
              simp only [List.flatMap_cons, List.length_append, List.length_cons]
              omega
          refine Ev.pos rfl (lawHolds_l0 x hxI _ (Nat.le_trans (hfl _ hmd) (by omega)) (fun t ht => ?_) _ 0 rfl ?_)
          · obtain ⟨i', hi', ht⟩ := List.mem_flatMap.1 ht
            unfold spL at ht
            split at ht
            · simp at ht
            · rename_i cc
              have hcc := cf_le (hs _ (rd_ok hi').1) n
              have hml := manyD_le (b := -cf n (rd_T70 l i')) (d := D) (by omega) (by omega)
              obtain ⟨jj, hjj, rfl⟩ := List.mem_map.1 ht
              have := List.mem_range.1 hjj
              exact spF_good (hs _ (rd_ok hi').1) (by omega) (by omega)
          · refine ⟨spF (rd_T70 l i) (-hV x (rd_T70 l i)), ?_, by rw [spF_val (hs _ r1.1) (hR _ r1.1)]; omega⟩
            rw [List.drop_zero]
            refine List.mem_flatMap.2 ⟨i, hi, ?_⟩
            unfold spL
            rw [if_neg (by omega)]
            refine List.mem_map.2 ⟨(-hV x (rd_T70 l i)).toNat, List.mem_range.2 (by omega), ?_⟩
            rw [show (((-hV x (rd_T70 l i)).toNat : Nat) : Int) = -hV x (rd_T70 l i) by omega]
    · rw [show l.all (holdB x) = false by simpa using cH]
      exact hout
  · exact Ev.neg cb hout
end Go.Proofs.Ytkfbfgkdabljiaa.Pure
