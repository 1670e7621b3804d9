/- The value of two forms' sum, so many times each, is the sum of their values: for every forms and numbers (asked of at most 70 monomials, 80 values, values and factors of size at most 2^20). -/
import Derived.Test.YtmedciidghmkkaaDoorPLinValuesx
import Derived.Test.YtmedciidghmkkaaDoorPLinValuesx8
import Derived.Laws.BitsAllLaws
import Derived.Deep.Slices
import Derived.ChangeSame
import Derived.KernelRfl
import Derived.OpenShut
namespace Go.Proofs.YtmedciidghmkkaaDoor.Pure
open Go.RowKit Go.Proofs.YtmedciidghmkkaaDoor.PLinValues Go.Proofs.YtmedciidghmkkaaDoorW.PrintWords Go.Proofs.YtmedciidghmkkaaDoorW.PrintLast
set_option linter.unusedVariables false
set_option linter.unusedSimpArgs false

/-! ### FitI -/
/-- A number, if it fits. -/
def fitI (n : Int) : Int × Bool := if -9223372036854775808 ≤ n ∧ n ≤ 9223372036854775807 then (n, true) else (0, false)
theorem abs_mul_lt {a b : Int} (h1 : -9223372036854775808 ≤ a) (h2 : a ≤ 9223372036854775807) (h3 : -9223372036854775808 ≤ b) (h4 : b ≤ 9223372036854775807) : a.natAbs * b.natAbs ≤ 85070591730234615865843651857942052864 :=
  Nat.le_trans (Nat.mul_le_mul (show a.natAbs ≤ 9223372036854775808 by omega) (show b.natAbs ≤ 9223372036854775808 by omega)) (by decide)


/-! ### NumCore -/
theorem odd_coprime_two {a : Nat} (h : a % 2 = 1) : Nat.Coprime a 2 := by
  have h1 : Nat.gcd a 2 ∣ 2 := Nat.gcd_dvd_right a 2
  have h2 : Nat.gcd a 2 ∣ a := Nat.gcd_dvd_left a 2
  have h3 : Nat.gcd a 2 ≤ 2 := Nat.le_of_dvd (by omega) h1
  have h4 : Nat.gcd a 2 ≠ 0 := fun e => by rw [e] at h1; simp at h1
  have h5 : Nat.gcd a 2 ≠ 2 := fun e => by rw [e] at h2; omega
  show Nat.gcd a 2 = 1
  omega

theorem gcd_odd_pow {a : Nat} (h : a % 2 = 1) (t b : Nat) : Nat.gcd a (2 ^ t * b) = Nat.gcd a b :=
  Nat.Coprime.gcd_mul_left_cancel_right b ((odd_coprime_two h).pow_right t).symm

theorem gcd_two_parts {oa ob ta tb : Nat} (ha : oa % 2 = 1) (hb : ob % 2 = 1) :
    Nat.gcd (2 ^ ta * oa) (2 ^ tb * ob) = Nat.gcd oa (2 ^ tb * ob) * 2 ^ min ta tb := by
  rw [gcd_odd_pow ha]
  rcases Nat.le_total ta tb with h | h
  · obtain ⟨d, rfl⟩ := Nat.exists_eq_add_of_le h
    rw [Nat.min_eq_left h, Nat.pow_add, Nat.mul_assoc, Nat.gcd_mul_left, gcd_odd_pow ha, Nat.mul_comm]
  · obtain ⟨d, rfl⟩ := Nat.exists_eq_add_of_le h
    rw [Nat.min_eq_right h, Nat.pow_add, Nat.mul_assoc, Nat.gcd_mul_left, Nat.gcd_comm, gcd_odd_pow hb, Nat.mul_comm, Nat.gcd_comm]

-- one round of the halving: x odd, y = 2^t * z, z odd
theorem gcd_round {x z t : Nat} (hx : x % 2 = 1) : Nat.gcd x (2 ^ t * z) = if z < x then Nat.gcd z (x - z) else Nat.gcd x (z - x) := by
  rw [gcd_odd_pow hx]
  split
  · rename_i h; rw [Nat.gcd_comm, Nat.gcd_sub_self_right (by omega)]
  · rename_i h; rw [Nat.gcd_sub_self_right (by omega)]

theorem mul64 (a b : Nat) (ha : a < 18446744073709551616) (hb : b < 18446744073709551616) :
    ((a / 4294967296) * (b / 4294967296) +
      ((a / 4294967296) * (b % 4294967296) + ((a % 4294967296) * (b % 4294967296)) / 4294967296) / 4294967296 +
      ((((a / 4294967296) * (b % 4294967296) + ((a % 4294967296) * (b % 4294967296)) / 4294967296) % 4294967296) + (a % 4294967296) * (b / 4294967296)) / 4294967296) = a * b / 18446744073709551616 := by
  have hab : a * b = (a / 4294967296) * (b / 4294967296) * 18446744073709551616 + ((a / 4294967296) * (b % 4294967296) + (a % 4294967296) * (b / 4294967296)) * 4294967296 + (a % 4294967296) * (b % 4294967296) := by
    have e1 : a = (a / 4294967296) * 4294967296 + a % 4294967296 := by omega
    have e2 : b = (b / 4294967296) * 4294967296 + b % 4294967296 := by omega
    generalize a / 4294967296 = x at *
    generalize a % 4294967296 = y at *
    generalize b / 4294967296 = u at *
    generalize b % 4294967296 = v at *
    subst e1 e2
    simp only [Nat.add_mul, Nat.mul_add]
    have : x * 4294967296 * (u * 4294967296) = x * u * 18446744073709551616 := by rw [Nat.mul_mul_mul_comm]
    have h2 : x * 4294967296 * v = x * v * 4294967296 := by rw [Nat.mul_right_comm]
    have h3 : y * (u * 4294967296) = y * u * 4294967296 := by rw [Nat.mul_assoc]
    omega
  rw [hab]
  generalize (a / 4294967296) * (b / 4294967296) = p
  generalize (a / 4294967296) * (b % 4294967296) = q
  generalize (a % 4294967296) * (b / 4294967296) = r
  generalize (a % 4294967296) * (b % 4294967296) = s
  omega

theorem u64w (n : Int) : IntKind.u64.wrap n = n % 18446744073709551616 := by
  simp [IntKind.wrap, IntKind.bits, IntKind.signed]
theorem wf64 {a : Int} (h : (Lit.int .i64 a).wf = true) : -9223372036854775808 ≤ a ∧ a ≤ 9223372036854775807 := by
  simpa [Lit.wf, IntKind.min, IntKind.max, IntKind.signed, IntKind.bits] using h
theorem w64 {n : Int} (h1 : -9223372036854775808 ≤ n) (h2 : n ≤ 9223372036854775807) : wrap64 n = n := by
  unfold wrap64; omega
theorem shr_nat (n i : Nat) (hi : i ≤ 64) : shr .u64 (n:Int) (i:Int) = ((n / 2^i : Nat) : Int) := by
  unfold shr
  simp only [IntKind.bits, Int.toNat_natCast, Nat.min_eq_left hi]
  simp
theorem and_one (x : Nat) (h : x < 18446744073709551616) : Go.bits .and .u64 (x:Int) 1 = ((x % 2 : Nat) : Int) := by
  have := u64_and_nat x 1 h (by decide)
  simpa [Nat.and_one_is_mod] using this
theorem mul_pow_div (t z : Nat) : 2^t * z / 2^t = z := Nat.mul_div_cancel_left _ (Nat.two_pow_pos t)
theorem le_mul_pow (t z : Nat) : z ≤ 2^t * z := Nat.le_mul_of_pos_left _ (Nat.two_pow_pos t)

theorem or_zero_left (b : Nat) (h : b < 18446744073709551616) : Go.bits .or .u64 0 (b:Int) = (b:Int) := by
  have := u64_or_nat 0 b (by decide) h
  simpa using this
theorem or_zero_right (b : Nat) (h : b < 18446744073709551616) : Go.bits .or .u64 (b:Int) 0 = (b:Int) := by
  have := u64_or_nat b 0 h (by decide)
  simpa using this

/-- The gcd of the sizes. -/
def gcdL (l : List Int) (g : Nat) : Nat := l.foldl (fun g n => Nat.gcd g n.natAbs) g
def fit (g : Nat) : Int × Bool := if g ≤ 9223372036854775807 then ((g:Int), true) else (0, false)
def I64 (l : List Int) : Prop := ∀ x ∈ l, -9223372036854775808 ≤ x ∧ x ≤ 9223372036854775807

theorem gcd_lt {a b : Nat} (ha : a < 18446744073709551616) (hb : b ≤ 9223372036854775808) : Nat.gcd a b < 18446744073709551616 := by
  rcases Nat.eq_zero_or_pos a with e | e
  · subst e; rw [Nat.gcd_zero_left]; omega
  · have := Nat.gcd_le_left b e; omega
theorem rd_at (l : List Int) (i : Nat) (h : i < l.length) : rd l (i:Int) = l[i] := by
  simp [rd, h]
theorem gcdL_dvd (l : List Int) : ∀ g : Nat, gcdL l g ∣ g ∧ ∀ x ∈ l, gcdL l g ∣ x.natAbs := by
  induction l with
  | nil => intro g; exact ⟨Nat.dvd_refl _, by simp⟩
  | cons a l ih =>
    intro g
    obtain ⟨h1, h2⟩ := ih (Nat.gcd g a.natAbs)
    refine ⟨Nat.dvd_trans h1 (Nat.gcd_dvd_left _ _), fun x hx => ?_⟩
    rcases List.mem_cons.1 hx with e | e
    · subst e; exact Nat.dvd_trans h1 (Nat.gcd_dvd_right _ _)
    · exact h2 x e
theorem dvd_gcdL (l : List Int) (d : Nat) : ∀ g : Nat, d ∣ g → (∀ x ∈ l, d ∣ x.natAbs) → d ∣ gcdL l g := by
  induction l with
  | nil => intro g h _; exact h
  | cons a l ih =>
    intro g h h2
    exact ih _ (Nat.dvd_gcd h (h2 a (by simp))) (fun x hx => h2 x (by simp [hx]))

theorem gcdL_lt (l : List Int) (hx : I64 l) : ∀ g, g < 18446744073709551616 → gcdL l g < 18446744073709551616 := by
  induction l with
  | nil => intro g h; exact h
  | cons a l ih =>
    intro g h
    have := hx a (by simp)
    exact ih (fun x hx' => hx x (by simp [hx'])) _ (gcd_lt h (by omega))

/-! ### Ev -/
/-- At all great fuels the same answer. -/
def Ev {α : Type} (f : Nat → Option α) (v : α) : Prop := ∃ K, ∀ k, K ≤ k → f k = some v
theorem Ev.now {α : Type} {f : Nat → Option α} {v : α} (h : ∀ k, f k = some v) : Ev f v := ⟨0, fun k _ => h k⟩
theorem Ev.succ {α : Type} {f : Nat → Option α} {v : α} (h : Ev (fun k => f (k + 1)) v) : Ev f v := by
  obtain ⟨K, h⟩ := h
  refine ⟨K + 1, fun k hk => ?_⟩
  obtain ⟨m, rfl⟩ : ∃ m, k = m + 1 := ⟨k - 1, by omega⟩
  exact h m (by omega)
theorem Ev.bind {α β : Type} {f : Nat → Option α} {g : Nat → α → Option β} {v : α} {u : β} (h : Ev f v) (h2 : Ev (fun k => g k v) u) : Ev (fun k => (f k).bind (g k)) u := by
  obtain ⟨K, h⟩ := h
  obtain ⟨K2, h2⟩ := h2
  refine ⟨max K K2, fun k hk => ?_⟩
  show (f k).bind (g k) = some u
  rw [h k (by omega)]
  exact h2 k (by omega)
theorem Ev.of {α : Type} {f g : Nat → Option α} {v : α} (h : Ev f v) (e : ∀ k, g k = f k) : Ev g v := by
  obtain ⟨K, h⟩ := h
  exact ⟨K, fun k hk => (e k).trans (h k hk)⟩
theorem Ev.at_ {α : Type} {f : Nat → Option α} {v : α} (h : Ev f v) : ∃ k, f k = some v := by
  obtain ⟨K, h⟩ := h
  exact ⟨K, h K (Nat.le_refl _)⟩
theorem Ev.mono {α : Type} {f : Nat → Option α} {v : α} (K : Nat) (hm : ∀ k, LeO (f k) (f (k + 1))) (h : f K = some v) : Ev f v := by
  refine ⟨K, fun k hk => ?_⟩
  obtain ⟨d, rfl⟩ := Nat.exists_eq_add_of_le hk
  induction d with
  | zero => exact h
  | succ d ih => exact hm (K + d) v (ih (by omega))
theorem Ev.val {α : Type} {f : Nat → Option α} {v u : α} (h : Ev f v) (e : v = u) : Ev f u := e ▸ h
theorem Ev.pos {α : Type} {c : Prop} [Decidable c] {f g : Nat → Option α} {v : α} (h : c) (hf : Ev f v) : Ev (fun k => if c then f k else g k) v := hf.of fun k => if_pos h
theorem Ev.neg {α : Type} {c : Prop} [Decidable c] {f g : Nat → Option α} {v : α} (h : ¬ c) (hf : Ev g v) : Ev (fun k => if c then f k else g k) v := hf.of fun k => if_neg h

/-! ### Lin28 -/
theorem rdM_at (l : List S51) (i : Nat) (h : i < l.length) : rd_T51 l (i:Int) = l[i] := by simp [rd_T51, h]
theorem rdQ_at (l : List S28) (i : Nat) (h : i < l.length) : rd_T28 l (i:Int) = l[i] := by simp [rd_T28, h]
/-- Are the variables in order, of the 64, and no factor zero? -/
def rightL : Int → List S51 → Bool
  | _, [] => true
  | last, m :: l => decide (last < m.f0) && decide (m.f0 < 64) && decide (m.f1 ≠ 0) && rightL m.f0 l
theorem Right_l0 (l : List S51) (hl : l.length ≤ 9223372036854775807) : ∀ (d i : Nat) (last : Int), l.length - i = d → i ≤ l.length →
    Ev (fun k => lin_Right.l0 k last l (l.length:Int) i) (if rightL last (l.drop i) = true then 0 else 1) := by
  intro d
  induction d with
  | zero =>
    intro i last h1 h2
    refine Ev.succ (Ev.now fun k => ?_)
    simp only [lin_Right.l0]
    rw [if_neg (by omega), List.drop_eq_nil_of_le (by omega)]; rfl
  | succ d ih =>
    intro i last h1 h2
    have hi : i < l.length := by omega
    rw [List.drop_eq_getElem_cons hi]
    by_cases e : last < l[i].f0 ∧ l[i].f0 < 64 ∧ l[i].f1 ≠ 0
    · obtain ⟨e1, e2, e3⟩ := e
      refine Ev.succ (Ev.of (ih (i+1) l[i].f0 (by omega) (by omega)) fun k => ?_) |>.val ?_
      · simp only [lin_Right.l0]
        rw [if_pos (by omega), if_pos (by omega), if_pos (by omega), rdM_at l i hi, if_neg (by omega), if_neg (by omega), if_neg e3, w64 (by omega) (by omega)]; rfl
      · simp only [rightL, decide_eq_true e1, decide_eq_true e2, decide_eq_true e3, Bool.true_and]
    · refine Ev.succ (Ev.now fun k => ?_)
      have hr : rightL last (l[i] :: l.drop (i+1)) = false := by
        simp only [rightL, Bool.and_eq_false_iff, decide_eq_false_iff_not]
        omega
      rw [hr]
      simp only [lin_Right.l0]
      rw [if_pos (by omega), if_pos (by omega), if_pos (by omega), rdM_at l i hi]
      by_cases e1 : l[i].f0 ≤ last
      · rw [if_pos e1]; rfl
      by_cases e2 : l[i].f0 ≥ 64
      · rw [if_neg e1, if_pos e2]; rfl
      · rw [if_neg e1, if_neg e2, if_pos (by omega)]; rfl
theorem Right_ev (K : Int) (l : List S51) (hl : l.length ≤ 9223372036854775807) : Ev (fun k => lin_Right.f k K l) (if rightL (-1) l = true then 0 else 1) := by
  have := Right_l0 l hl _ 0 (-1) rfl (by omega)
  exact this
theorem right1_ev (K : Int) (l : List S51) (hl : l.length ≤ 9223372036854775807) : Ev (fun k => lin_right_1.f k K l) (!rightL (-1) l) :=
  Ev.bind (Right_ev K l hl) (Ev.now fun _ => by cases rightL (-1) l <;> rfl)

theorem idx_l0 (l : List S28) (hl : l.length ≤ 9223372036854775807) (hm : ∀ q ∈ l, q.f1.length ≤ 9223372036854775807) : ∀ (d i : Nat), l.length - i = d → i ≤ l.length →
    ∃ v, Ev (fun k => api_Lin_66.l0 k l (l.length:Int) i) v ∧ decide (v ≥ 0) = !((l.drop i).all fun q => rightL (-1) q.f1) := by
  intro d
  induction d with
  | zero =>
    intro i h1 h2
    refine ⟨-1, Ev.succ (Ev.now fun k => ?_), ?_⟩
    · simp only [api_Lin_66.l0]
      rw [if_neg (by omega)]
    · rw [List.drop_eq_nil_of_le (by omega)]; rfl
  | succ d ih =>
    intro i h1 h2
    have hi : i < l.length := by omega
    rw [List.drop_eq_getElem_cons hi]
    have hq := right1_ev l[i].f0 l[i].f1 (hm _ (List.getElem_mem hi))
    obtain ⟨v, ev, hv⟩ := ih (i+1) (by omega) (by omega)
    have hs : ∀ k, api_Lin_66.l0 (k+1) l (l.length:Int) i = (lin_right_1.f k l[i].f0 l[i].f1).bind fun t => if t = true then some (i:Int) else api_Lin_66.l0 k l (l.length:Int) ((i+1 : Nat) : Int) := by
      intro k
      simp only [api_Lin_66.l0]
      rw [if_pos (by omega), if_pos (by omega), if_pos (by omega), rdQ_at l i hi, w64 (by omega) (by omega)]; rfl
    by_cases e : rightL (-1) l[i].f1 = true
    · rw [e] at hq
      refine ⟨v, Ev.succ (Ev.of (Ev.bind hq ?_) hs), ?_⟩
      · exact Ev.of ev fun k => by simp
      · rw [hv, List.all_cons, e, Bool.true_and]
    · have e' : rightL (-1) l[i].f1 = false := by simpa using e
      rw [e'] at hq
      refine ⟨i, Ev.succ (Ev.of (Ev.bind hq ?_) hs), ?_⟩
      · exact Ev.now fun k => by simp
      · rw [List.all_cons, e']; simp
theorem linright_ev (l : List S28) (hl : l.length ≤ 9223372036854775807) (hm : ∀ q ∈ l, q.f1.length ≤ 9223372036854775807) : Ev (fun k => lin_right.f k l) (l.all fun q => rightL (-1) q.f1) := by
  obtain ⟨v, ev, hv⟩ := idx_l0 l hl hm _ 0 rfl (by omega)
  rw [List.drop_zero] at hv
  refine Ev.bind (v := decide (v ≥ 0)) (Ev.bind ev (Ev.now fun _ => rfl)) (Ev.now fun _ => ?_)
  rw [hv]; simp

theorem rightL_mem : ∀ (l : List S51) (last : Int), rightL last l = true → ∀ m ∈ l, last < m.f0 ∧ m.f0 < 64 ∧ m.f1 ≠ 0 := by
  intro l
  induction l with
  | nil => intro last _ m hm; cases hm
  | cons a l ih =>
    intro last h m hm
    simp only [rightL, Bool.and_eq_true, decide_eq_true_eq] at h
    rcases List.mem_cons.1 hm with e | e
    · subst e; exact ⟨h.1.1.1, h.1.1.2, h.1.2⟩
    · have := ih a.f0 h.2 m e; omega
theorem rightL_len : ∀ (l : List S51) (last : Int), last ≤ 63 → rightL last l = true → (l.length : Int) ≤ 63 - last := by
  intro l
  induction l with
  | nil => intro last h _; simp; omega
  | cons a l ih =>
    intro last h0 h
    simp only [rightL, Bool.and_eq_true, decide_eq_true_eq] at h
    have := ih a.f0 (by omega) h.2
    simp only [List.length_cons]; omega
/-- The monomials' ranges. -/
def M64 (l : List S51) : Prop := ∀ m ∈ l, (-9223372036854775808 ≤ m.f0 ∧ m.f0 ≤ 9223372036854775807) ∧ -9223372036854775808 ≤ m.f1 ∧ m.f1 ≤ 9223372036854775807
def R64 (n : Int) : Prop := -9223372036854775808 ≤ n ∧ n ≤ 9223372036854775807

theorem in64_of {n : Int} (h : R64 n) : in64 n = true := by
  simp only [in64, Bool.and_eq_true, decide_eq_true_eq]; exact h
theorem rd_R64 {x : List Int} (hx : I64 x) (i : Int) : R64 (rd x i) := by
  unfold rd
  by_cases h : i.toNat < x.length
  · rw [List.getD_eq_getElem?_getD, List.getElem?_eq_getElem h]; exact hx _ (List.getElem_mem h)
  · rw [List.getD_eq_getElem?_getD, List.getElem?_eq_none (by omega)]; exact ⟨by simp, by simp⟩
theorem mul_R64 {a b : Int} (ha : R64 a) (hb : R64 b) : -85070591730234615865843651857942052864 ≤ a * b ∧ a * b ≤ 85070591730234615865843651857942052864 := by
  have h := abs_mul_lt ha.1 ha.2 hb.1 hb.2
  rw [← Int.natAbs_mul] at h
  omega
theorem wrap192_id {s : Int} (h1 : -3138550867693340381917894711603833208051177722232017256448 ≤ s) (h2 : s < 3138550867693340381917894711603833208051177722232017256448) : wrap192 s = s := by
  unfold wrap192; omega
/-- The constant divided, rounded up, and a monomial divided. -/
def ceilD (K d : Int) : Int := -((-K) / d)
def divM (d : Int) (m : S51) : S51 := ⟨m.f0, Int.tdiv m.f1 d⟩
theorem tdiv_R64 {a d : Int} (ha : R64 a) (hd : 1 ≤ d) : R64 (Int.tdiv a d) ∧ (0 < d → (0 ≤ a → Int.tdiv a d = a / d) ∧ (a < 0 → Int.tdiv a d = -((-a) / d))) := by
  have h : 0 < d → (0 ≤ a → Int.tdiv a d = a / d) ∧ (a < 0 → Int.tdiv a d = -((-a) / d)) := by
    intro _
    constructor
    · intro h0; exact Int.tdiv_eq_ediv_of_nonneg h0
    · intro h0
      have h1 : Int.tdiv (-a) d = (-a) / d := Int.tdiv_eq_ediv_of_nonneg (by omega)
      rw [Int.neg_tdiv] at h1; omega
  refine ⟨?_, h⟩
  obtain ⟨h1, h2⟩ := h (by omega)
  have hA := ha.1
  have hB := ha.2
  by_cases e : 0 ≤ a
  · rw [h1 e]
    have p1 : 0 ≤ a / d := Int.ediv_nonneg e (by omega)
    have p2 : a / d ≤ a := Int.ediv_le_self d e
    exact ⟨by omega, by omega⟩
  · rw [h2 (by omega)]
    have p1 : 0 ≤ (-a) / d := Int.ediv_nonneg (by omega) (by omega)
    have p2 : (-a) / d ≤ -a := Int.ediv_le_self d (by omega)
    exact ⟨by omega, by omega⟩
theorem ceil_law {K d : Int} (hd : 1 ≤ d) : d * (ceilD K d - 1) < K ∧ K ≤ d * ceilD K d := by
  unfold ceilD
  have h1 := Int.ediv_mul_le (-K) (show d ≠ 0 by omega)
  have h2 := Int.lt_ediv_add_one_mul_self (-K) (show 0 < d by omega)
  rw [Int.mul_comm] at h1 h2
  generalize (-K) / d = q at *
  rw [Int.mul_add] at h2
  rw [Int.mul_sub, Int.mul_neg]
  omega
theorem ceilD_uniq {K d c : Int} (hd : 1 ≤ d) (h1 : d * (c - 1) < K) (h2 : K ≤ d * c) : c = ceilD K d := by
  obtain ⟨p1, p2⟩ := ceil_law (K := K) hd
  have a1 : d * (c - 1) < d * ceilD K d := by omega
  have a2 : d * (ceilD K d - 1) < d * c := by omega
  have b1 := Int.lt_of_mul_lt_mul_left a1 (by omega)
  have b2 := Int.lt_of_mul_lt_mul_left a2 (by omega)
  omega
/-! ### InstR -/
instance instR64 (n : Int) : Decidable (R64 n) := inferInstanceAs (Decidable (_ ∧ _))

/-! ### Eval28 -/
theorem evalFold_le (x : List Int) (hx : I64 x) : ∀ (l : List S51) (s : Int), M64 l →
    s - l.length * 85070591730234615865843651857942052864 ≤ l.foldl (evalStep x) s ∧ l.foldl (evalStep x) s ≤ s + l.length * 85070591730234615865843651857942052864 := by
  intro l
  induction l with
  | nil => intro s _; simp
  | cons a l ih =>
    intro s h
    have h1 := ih (evalStep x s a) (fun m hm => h m (List.mem_cons_of_mem _ hm))
    have h2 := mul_R64 (h a (List.mem_cons_self ..)).2 (rd_R64 hx a.f0)
    have h3 : s - 85070591730234615865843651857942052864 ≤ evalStep x s a ∧ evalStep x s a ≤ s + 85070591730234615865843651857942052864 := by
      unfold evalStep; split <;> omega
    simp only [List.foldl_cons, List.length_cons]
    omega
theorem evalSum_le (K : Int) (l : List S51) (x : List Int) (hK : R64 K) (hl : M64 l) (hx : I64 x) (hr : rightL (-1) l = true) :
    -3138550867693340381917894711603833208051177722232017256448 ≤ evalSum K l x ∧ evalSum K l x < 3138550867693340381917894711603833208051177722232017256448 := by
  have h := evalFold_le x hx l (0 + K * 1) hl
  have h2 := rightL_len l (-1) (by omega) hr
  unfold evalSum
  have := hK.1
  have := hK.2
  omega
theorem Eval_ev (K : Int) (l : List S51) (x : List Int) (hK : R64 K) (hl : M64 l) (hx : I64 x) (hlen : l.length ≤ 9223372036854775807) :
    Ev (fun k => lin_Eval.f k K l x) (if rightL (-1) l = true then (if (fit64 (evalSum K l x)).2 = true then ((fit64 (evalSum K l x)).1, 0) else (0, 5)) else (0, 1)) := by
  have h := linright_ev [⟨K, l⟩] (by simp) (by intro q hq; simp at hq; subst hq; exact hlen)
  refine Ev.bind h (Ev.now fun _ => ?_)
  simp only [List.all_cons, List.all_nil, Bool.and_true]
  by_cases e : rightL (-1) l = true
  · rw [if_pos e, if_pos e]
    have hb := evalSum_le K l x hK hl hx e
    have hok : (in64 K && l.all (evalOk x)) = true := by
      rw [in64_of hK, Bool.true_and, List.all_eq_true]
      intro m hm
      have := (rightL_mem l (-1) e m hm).1
      simp only [evalOk, Bool.and_eq_true, Bool.or_eq_true, decide_eq_true_eq]
      exact ⟨by omega, .inr ⟨in64_of (hl m hm).2, in64_of (rd_R64 hx _)⟩⟩
    rw [if_pos hok]
    unfold fit192
    rw [wrap192_id hb.1 hb.2]
  · rw [if_neg e, if_neg e]

/-! ### EvalAdd -/
theorem evalFold_add (x : List Int) : ∀ (l : List S51) (s : Int), l.foldl (evalStep x) s = s + l.foldl (evalStep x) 0 := by
  intro l
  induction l with
  | nil => intro s; simp
  | cons a l ih =>
    intro s
    simp only [List.foldl_cons]
    rw [ih (evalStep x s a), ih (evalStep x 0 a)]
    unfold evalStep; split <;> omega
theorem evalSum_eq (K : Int) (l : List S51) (x : List Int) : evalSum K l x = K + l.foldl (evalStep x) 0 := by
  unfold evalSum; rw [evalFold_add]; omega

/-! ### Far -/
theorem tmod_nat (a b : Nat) : Int.tmod (a:Int) (b:Int) = ((a % b : Nat) : Int) := (Int.ofNat_tmod a b).symm
theorem mod64 (n : Nat) (h : n < 18446744073709551616) : (n:Int) % 18446744073709551616 = n := by omega
theorem tdiv_nat (a b : Nat) : Int.tdiv (a:Int) (b:Int) = ((a / b : Nat) : Int) := (Int.ofNat_tdiv a b).symm


/-! ### Wide -/
/-- The two halves of a number, up to a multiple of 2^128. -/
def hiW (v : Int) : Int := wrap64 (v / 18446744073709551616)
def loW (v : Int) : Int := v % 18446744073709551616
theorem xor_all (x : Int) (h1 : 0 ≤ x) (h2 : x < 18446744073709551616) : Go.bits .xor .u64 18446744073709551615 x = 18446744073709551615 - x := by
  obtain ⟨n, rfl⟩ := Int.eq_ofNat_of_zero_le h1
  refine Eq.trans (u64_xor_nat 18446744073709551615 n (by decide) (by omega)) ?_
  have h : (BitVec.allOnes 64 ^^^ BitVec.ofNat 64 n).toNat = 18446744073709551615 ^^^ n := by
    rw [BitVec.toNat_xor, BitVec.toNat_allOnes, BitVec.toNat_ofNat, Nat.mod_eq_of_lt (by omega)]
  rw [BitVec.allOnes_xor, BitVec.toNat_not, BitVec.toNat_ofNat, Nat.mod_eq_of_lt (by omega)] at h
  omega
theorem hiW0 : hiW 0 = 0 := by unfold hiW wrap64; omega
theorem loW0 : loW 0 = 0 := by decide
theorem hiW1 : hiW 1 = 0 := by unfold hiW wrap64; omega
theorem loW1 : loW 1 = 1 := by decide
/-! ### Times -/
theorem mul_small {a b : Int} (h1 : -9223372036854775808 ≤ a) (h2 : a ≤ 9223372036854775807) (h3 : -9223372036854775808 ≤ b) (h4 : b ≤ 9223372036854775807) : -85070591730234615865843651857942052864 ≤ a * b ∧ a * b ≤ 85070591730234615865843651857942052864 := by
  have h := abs_mul_lt h1 h2 h3 h4
  rw [← Int.natAbs_mul] at h
  omega

/-! ### Sum28 -/
/-! Sums of the 64 variables' parts. -/
def sg : Nat → (Nat → Int) → Int
  | 0, _ => 0
  | n + 1, f => sg n f + f n
theorem sg_congr {n : Nat} {f g : Nat → Int} (h : ∀ i, i < n → f i = g i) : sg n f = sg n g := by
  induction n with
  | zero => rfl
  | succ n ih => simp only [sg]; rw [ih (fun i hi => h i (by omega)), h n (by omega)]
theorem sg_add (n : Nat) (f g : Nat → Int) : sg n (fun i => f i + g i) = sg n f + sg n g := by
  induction n with
  | zero => rfl
  | succ n ih => simp only [sg]; rw [ih]; omega
theorem sg_mul (n : Nat) (f : Nat → Int) (c : Int) : sg n (fun i => f i * c) = sg n f * c := by
  induction n with
  | zero => simp [sg]
  | succ n ih => simp only [sg]; rw [ih, Int.add_mul]
theorem sg_zero (n : Nat) : sg n (fun _ => 0) = 0 := by
  induction n with
  | zero => rfl
  | succ n ih => simp only [sg]; rw [ih]; rfl
theorem sg_one (n j : Nat) (hj : j < n) (c : Int) : sg n (fun i => if j = i then c else 0) = c := by
  induction n with
  | zero => omega
  | succ n ih =>
    simp only [sg]
    by_cases e : j = n
    · subst e
      rw [if_pos rfl, sg_congr (g := fun _ => 0) (fun i hi => if_neg (by omega)), sg_zero]; omega
    · rw [if_neg e, ih (by omega)]; omega
/-- How many times a variable stands in a form. -/
def coef : List S51 → Nat → Int
  | [], _ => 0
  | m :: l, v => (if m.f0 = (v : Int) then m.f1 else 0) + coef l v
theorem rightL_vars {l : List S51} (h : rightL (-1) l = true) : ∀ m ∈ l, 0 ≤ m.f0 ∧ m.f0 < 64 := fun m hm => by
  have := rightL_mem l (-1) h m hm; omega
theorem coef_none : ∀ (l : List S51) (last : Int), rightL last l = true → ∀ v : Nat, (v : Int) ≤ last → coef l v = 0 := by
  intro l
  induction l with
  | nil => intro _ _ _ _; rfl
  | cons m l ih =>
    intro last h v hv
    simp only [rightL, Bool.and_eq_true, decide_eq_true_eq] at h
    simp only [coef]
    rw [if_neg (by omega), ih m.f0 h.2 v (by omega)]; rfl
theorem coef_R64 : ∀ (l : List S51) (last : Int), rightL last l = true → M64 l → ∀ v : Nat, R64 (coef l v) := by
  intro l
  induction l with
  | nil => intro _ _ _ _; exact ⟨by simp [coef], by simp [coef]⟩
  | cons m l ih =>
    intro last h hM v
    have hr := h
    simp only [rightL, Bool.and_eq_true, decide_eq_true_eq] at h
    simp only [coef]
    by_cases e : m.f0 = (v : Int)
    · rw [if_pos e, coef_none l m.f0 h.2 v (by omega), Int.add_zero]; exact (hM m (List.mem_cons_self ..)).2
    · rw [if_neg e, Int.zero_add]; exact ih m.f0 h.2 (fun a ha => hM a (List.mem_cons_of_mem _ ha)) v

/-- The form of which the variables stand so many times. -/
def linOf (c : Nat → Int) (n : Nat) : List S51 := (List.range n).filterMap fun i => if c i = 0 then none else some ⟨(i : Int), c i⟩
theorem linOf_succ (c : Nat → Int) (n : Nat) : linOf c (n + 1) = linOf c n ++ (if c n = 0 then [] else [⟨(n : Int), c n⟩]) := by
  unfold linOf
  rw [List.range_succ, List.filterMap_append]
  congr 1
  simp only [List.filterMap_cons, List.filterMap_nil]
  split <;> simp_all
theorem linOf_mem (c : Nat → Int) : ∀ (n : Nat) (m : S51), m ∈ linOf c n → ∃ i : Nat, i < n ∧ m = ⟨(i : Int), c i⟩ ∧ c i ≠ 0 := by
  intro n
  induction n with
  | zero => intro m hm; cases hm
  | succ n ih =>
    intro m hm
    rw [linOf_succ] at hm
    rcases List.mem_append.1 hm with h | h
    · obtain ⟨i, h1, h2⟩ := ih m h; exact ⟨i, by omega, h2⟩
    · by_cases e : c n = 0
      · rw [if_pos e] at h; cases h
      · rw [if_neg e] at h; exact ⟨n, by omega, by simpa using h, e⟩
theorem linOf_len (c : Nat → Int) (n : Nat) : (linOf c n).length ≤ n := by
  have := List.length_filterMap_le (fun i : Nat => if c i = 0 then none else some (⟨(i : Int), c i⟩ : S51)) (List.range n)
  simpa [linOf] using this
theorem rightL_append : ∀ (a : List S51) (last : Int) (m : S51), rightL last a = true → (∀ x ∈ a, x.f0 < m.f0) → last < m.f0 → m.f0 < 64 → m.f1 ≠ 0 → rightL last (a ++ [m]) = true := by
  intro a
  induction a with
  | nil => intro last m _ _ h1 h2 h3; simp [rightL, h1, h2, h3]
  | cons b a ih =>
    intro last m h hlt h1 h2 h3
    simp only [rightL, Bool.and_eq_true, List.cons_append] at h ⊢
    exact ⟨h.1, ih b.f0 m h.2 (fun x hx => hlt x (List.mem_cons_of_mem _ hx)) (hlt b (List.mem_cons_self ..)) h2 h3⟩
theorem linOf_right (c : Nat → Int) : ∀ n, n ≤ 64 → rightL (-1) (linOf c n) = true := by
  intro n
  induction n with
  | zero => intro _; rfl
  | succ n ih =>
    intro hn
    rw [linOf_succ]
    by_cases e : c n = 0
    · rw [if_pos e, List.append_nil]; exact ih (by omega)
    · rw [if_neg e]
      refine rightL_append _ _ _ (ih (by omega)) (fun x hx => ?_) (by simp only; omega) (by simp only; omega) e
      obtain ⟨i, hi, rfl, _⟩ := linOf_mem c n x hx
      simp only; omega
theorem linOf_M64 (c : Nat → Int) (n : Nat) (hn : n ≤ 64) (h : ∀ v, v < n → R64 (c v)) : M64 (linOf c n) := by
  intro m hm
  obtain ⟨i, hi, rfl, _⟩ := linOf_mem c n m hm
  exact ⟨⟨by simp only; omega, by simp only; omega⟩, h i hi⟩
theorem linOf_congr {c d : Nat → Int} {n : Nat} (h : ∀ i, i < n → c i = d i) : linOf c n = linOf d n := by
  induction n with
  | zero => rfl
  | succ n ih => rw [linOf_succ, linOf_succ, ih (fun i hi => h i (by omega)), h n (by omega)]

/-- How many times a variable stands in a sum; and the sum's constant. -/
def csum : List S55 → Nat → Int
  | [], _ => 0
  | x :: l, v => coef x.f0.f1 v * x.f1 + csum l v
def kS : List S55 → Int
  | [] => 0
  | x :: l => x.f0.f0 * x.f1 + kS l
theorem ksum_eq (l : List S55) : ∀ s, l.foldl (fun s x => s + x.f0.f0 * x.f1) s = s + kS l := by
  induction l with
  | nil => intro s; simp [kS]
  | cons x l ih => intro s; simp only [List.foldl_cons, kS]; rw [ih]; omega
theorem addM_len (b : Int) (acc : List Int) (m : S51) : (addM b acc m).length = acc.length := by simp [addM]
theorem addMs_len (b : Int) (l : List S51) : ∀ acc : List Int, (l.foldl (addM b) acc).length = acc.length := by
  induction l with
  | nil => intro _; rfl
  | cons m l ih => intro acc; rw [List.foldl_cons, ih, addM_len]
theorem addM_get (b : Int) (acc : List Int) (m : S51) (v : Nat) (hv : v < acc.length) (h0 : 0 ≤ m.f0) : (addM b acc m).getD v 0 = acc.getD v 0 + (if m.f0 = (v : Int) then m.f1 else 0) * b := by
  unfold addM
  rw [List.getD_eq_getElem?_getD, List.getElem?_set, List.getD_eq_getElem?_getD, List.getD_eq_getElem?_getD]
  by_cases e : m.f0 = (v : Int)
  · have e2 : m.f0.toNat = v := by omega
    rw [if_pos e, if_pos e2, if_pos (by omega), e2]; rfl
  · rw [if_neg e, if_neg (by omega), Int.zero_mul, Int.add_zero]
theorem addMs_get (b : Int) (v : Nat) (l : List S51) : ∀ acc : List Int, v < acc.length → (∀ m ∈ l, 0 ≤ m.f0) → (l.foldl (addM b) acc).getD v 0 = acc.getD v 0 + coef l v * b := by
  induction l with
  | nil => intro acc _ _; simp [coef]
  | cons m l ih =>
    intro acc hv h
    rw [List.foldl_cons, ih _ (by rw [addM_len]; exact hv) (fun a ha => h a (List.mem_cons_of_mem _ ha)), addM_get b acc m v hv (h m (List.mem_cons_self ..))]
    simp only [coef, Int.add_mul]; omega
theorem accs_get (v : Nat) (l : List S55) : ∀ acc : List Int, v < acc.length → (∀ x ∈ l, ∀ m ∈ x.f0.f1, 0 ≤ m.f0) → (l.foldl addF acc).getD v 0 = acc.getD v 0 + csum l v := by
  induction l with
  | nil => intro acc _ _; simp [csum]
  | cons x l ih =>
    intro acc hv h
    rw [List.foldl_cons, ih _ (by unfold addF; rw [addMs_len]; exact hv) (fun a ha => h a (List.mem_cons_of_mem _ ha))]
    unfold addF
    rw [addMs_get x.f1 v x.f0.f1 acc hv (h x (List.mem_cons_self ..))]
    simp only [csum]; omega

/-- A sum's parts: forms that are right, and numbers in range. -/
def G67 (l : List S55) : Prop := ∀ x ∈ l, R64 x.f0.f0 ∧ rightL (-1) x.f0.f1 = true ∧ M64 x.f0.f1 ∧ R64 x.f1
theorem G67_tail {x : S55} {l : List S55} (h : G67 (x :: l)) : G67 l := fun a ha => h a (List.mem_cons_of_mem _ ha)
theorem csum_le (v : Nat) : ∀ l : List S55, G67 l → -(l.length * 85070591730234615865843651857942052864 : Int) ≤ csum l v ∧ csum l v ≤ l.length * 85070591730234615865843651857942052864 := by
  intro l
  induction l with
  | nil => intro _; simp [csum]
  | cons x l ih =>
    intro h
    have h1 := ih (G67_tail h)
    have hx := h x (List.mem_cons_self ..)
    have h2 := mul_R64 (coef_R64 x.f0.f1 (-1) hx.2.1 hx.2.2.1 v) hx.2.2.2
    simp only [csum, List.length_cons]
    omega
theorem kS_le : ∀ l : List S55, G67 l → -(l.length * 85070591730234615865843651857942052864 : Int) ≤ kS l ∧ kS l ≤ l.length * 85070591730234615865843651857942052864 := by
  intro l
  induction l with
  | nil => intro _; simp [kS]
  | cons x l ih =>
    intro h
    have h1 := ih (G67_tail h)
    have hx := h x (List.mem_cons_self ..)
    have h2 := mul_R64 hx.1 hx.2.2.2
    simp only [kS, List.length_cons]
    omega
def fitsC (c : Nat → Int) : Bool := (List.range 64).all fun v => decide (R64 (c v))
theorem fitsC_R64 {c : Nat → Int} (h : fitsC c = true) : ∀ v, v < 64 → R64 (c v) := by
  intro v hv
  have := List.all_eq_true.1 h v (List.mem_range.2 hv)
  simpa using this
theorem filterMap_congr_ {α β : Type} (l : List α) (f g : α → Option β) (h : ∀ a ∈ l, f a = g a) : l.filterMap f = l.filterMap g := by
  induction l with
  | nil => rfl
  | cons a l ih =>
    rw [List.filterMap_cons, List.filterMap_cons, h a (List.mem_cons_self ..), ih (fun b hb => h b (List.mem_cons_of_mem _ hb))]
/-- What a sum comes to. -/
def sumR (l : List S55) : Int × List S51 × Int :=
  if R64 (kS l) ∧ fitsC (csum l) = true then (kS l, linOf (csum l) 64, 0) else (0, [], 5)
theorem fit64_R {n : Int} (h : R64 n) : fit64 n = (n, true) := by
  have h' : -9223372036854775808 ≤ n ∧ n ≤ 9223372036854775807 := h
  unfold fit64; rw [if_pos h']
theorem fit64_N {n : Int} (h : ¬ R64 n) : fit64 n = (0, false) := by
  have h' : ¬ (-9223372036854775808 ≤ n ∧ n ≤ 9223372036854775807) := h
  unfold fit64; rw [if_neg h']
theorem fit64_2 (n : Int) : (fit64 n).2 = decide (R64 n) := by
  by_cases h : R64 n
  · rw [fit64_R h, decide_eq_true h]
  · rw [fit64_N h, decide_eq_false h]
theorem sum_eq (l : List S55) (h : G67 l) (hl : l.length ≤ 9223372036854775807) : lin_sum.f l = some (sumR l) := by
  have hg : l.all goodF = true := by
    rw [List.all_eq_true]
    intro x hx
    obtain ⟨a, b, c, d⟩ := h x hx
    simp only [goodF, Bool.and_eq_true, List.all_eq_true]
    refine ⟨⟨in64_of a, in64_of d⟩, fun m hm => ?_⟩
    have := rightL_vars b m hm
    simp only [goodM, Bool.and_eq_true, decide_eq_true_eq]
    exact ⟨this, in64_of (c m hm).2⟩
  have hacc : ∀ v, v < 64 → (accs l).getD v 0 = csum l v := by
    intro v hv
    unfold accs
    rw [accs_get v l _ (by simpa using hv) (fun x hx m hm => (rightL_vars (h x hx).2.1 m hm).1)]
    have h0 : (List.replicate 64 (0:Int)).getD v 0 = 0 := by rw [List.getD_eq_getElem?_getD, List.getElem?_replicate, if_pos hv]; rfl
    rw [h0]; omega
  have hW : ∀ v, v < 64 → fit192 ((accs l).getD v 0) = fit64 (csum l v) := by
    intro v hv
    rw [hacc v hv]
    unfold fit192
    have := csum_le v l h
    rw [wrap192_id (by omega) (by omega)]
  have hK : fit192 (ksum l) = fit64 (kS l) := by
    have e : ksum l = kS l := by unfold ksum; rw [ksum_eq]; omega
    rw [e]
    unfold fit192
    have := kS_le l h
    rw [wrap192_id (by omega) (by omega)]
  have hall : ((List.range 64).all fun i => (fit192 ((accs l).getD i 0)).2) = fitsC (csum l) := by
    unfold fitsC
    rw [Bool.eq_iff_iff, List.all_eq_true, List.all_eq_true]
    constructor
    · intro hh v hv
      have := hh v hv
      rwa [hW v (List.mem_range.1 hv), fit64_2] at this
    · intro hh v hv
      have := hh v hv
      rwa [hW v (List.mem_range.1 hv), fit64_2]
  unfold lin_sum.f sumR
  rw [if_pos hg, hK, fit64_2]
  unfold sumOk
  rw [hall]
  by_cases e : R64 (kS l) ∧ fitsC (csum l) = true
  · rw [if_pos e, if_pos (by simp [e.1, e.2]), fit64_R e.1]
    congr 3
    have hc := fitsC_R64 e.2
    unfold sumOut linOf
    refine filterMap_congr_ _ _ _ fun i hi => ?_
    rw [hW i (List.mem_range.1 hi), fit64_R (hc i (List.mem_range.1 hi))]
  · rw [if_neg e, if_neg (by simp only [Bool.and_eq_true, decide_eq_true_eq]; exact e)]
/-- The forms, each with its number of times. -/
def zipS (l0 : List S28) (l1 : List Int) : List S55 := List.zipWith (fun q b => ⟨q, b⟩) l0 l1
theorem zipS_G67 {l0 : List S28} {l1 : List Int} (h0 : ∀ q ∈ l0, R64 q.f0 ∧ M64 q.f1) (hr : l0.all (fun q => rightL (-1) q.f1) = true) (h1 : I64 l1) : G67 (zipS l0 l1) := by
  intro x hx
  obtain ⟨i, hi, he⟩ := List.getElem_of_mem hx
  unfold zipS at he hi
  rw [List.getElem_zipWith] at he
  subst he
  simp only [List.length_zipWith] at hi
  have a0 : l0[i]'(by omega) ∈ l0 := List.getElem_mem _
  have a1 : l1[i]'(by omega) ∈ l1 := List.getElem_mem _
  exact ⟨(h0 _ a0).1, List.all_eq_true.1 hr _ a0, (h0 _ a0).2, h1 _ a1⟩
def sumD (l0 : List S28) (l1 : List Int) : Int × List S51 × Int :=
  if l0.all (fun q => rightL (-1) q.f1) = true ∧ l0.length = l1.length then sumR (zipS l0 l1) else (0, [], 1)
theorem linSum_l0 (l0 : List S28) (l1 : List Int) (hG : G67 (zipS l0 l1)) (he : l0.length = l1.length) (hlen : l0.length ≤ 1000000) : ∀ (d i : Nat) (acc : List S55), l0.length - i = d → i ≤ l0.length → acc = (zipS l0 l1).take i →
    Ev (fun k => lin_Sum.l0 k l1 acc l0 (l0.length:Int) i) (sumR (zipS l0 l1)) := by
  have hzl : (zipS l0 l1).length = l0.length := by simp [zipS, he]
  intro d
  induction d with
  | zero =>
    intro i acc h1 h2 hacc
    refine Ev.succ (Ev.now fun k => ?_)
    simp only [lin_Sum.l0]
    rw [if_neg (by omega), hacc, List.take_of_length_le (by omega), sum_eq _ hG (by omega)]; rfl
  | succ d ih =>
    intro i acc h1 h2 hacc
    have hi : i < l0.length := by omega
    refine Ev.succ (Ev.of (ih (i+1) (acc ++ [⟨l0[i], l1[i]'(by omega)⟩]) (by omega) (by omega) ?_) fun k => ?_)
    · rw [hacc, List.take_succ_eq_append_getElem (by omega)]
      simp [zipS]
    · have hal : acc.length ≤ 1000000 := by rw [hacc]; simp; omega
      simp only [lin_Sum.l0]
      rw [if_pos (by omega), if_pos (by omega), if_pos (by omega), if_pos (by omega), if_pos (by omega), rdQ_at l0 i hi, rd_at l1 i (by omega), w64 (by omega) (by omega)]; rfl
theorem linSum_ev (l0 : List S28) (l1 : List Int) (h0 : ∀ q ∈ l0, R64 q.f0 ∧ M64 q.f1 ∧ q.f1.length ≤ 9223372036854775807) (h1 : I64 l1) (hlen : l0.length ≤ 1000000) :
    Ev (fun k => lin_Sum.f k l0 l1) (sumD l0 l1) := by
  refine Ev.bind (linright_ev l0 (by omega) (fun q hq => (h0 q hq).2.2)) ?_
  unfold sumD
  by_cases e : l0.all (fun q => rightL (-1) q.f1) = true
  · refine Ev.pos e ?_
    by_cases e2 : l0.length = l1.length
    · rw [if_pos ⟨e, e2⟩]
      refine Ev.succ (Ev.of (linSum_l0 l0 l1 (zipS_G67 (fun q hq => ⟨(h0 q hq).1, (h0 q hq).2.1⟩) e h1) e2 hlen _ 0 [] rfl (by omega) (by simp)) fun k => ?_)
      simp only [lin_Sum.j0]
      rw [if_neg (by simp; omega)]; rfl
    · rw [if_neg (fun h => e2 h.2)]
      refine Ev.succ (Ev.now fun k => ?_)
      simp only [lin_Sum.j0]
      rw [if_pos (by simp; omega)]
  · rw [if_neg (fun h => e h.1)]
    refine Ev.neg e (Ev.succ (Ev.now fun k => ?_))
    simp only [lin_Sum.j0, if_true]
theorem sumR_fine (l : List S55) : R64 (sumR l).1 ∧ M64 (sumR l).2.1 ∧ (sumR l).2.1.length ≤ 64 ∧ rightL (-1) (sumR l).2.1 = true := by
  unfold sumR
  by_cases e : R64 (kS l) ∧ fitsC (csum l) = true
  · rw [if_pos e]
    exact ⟨e.1, linOf_M64 _ 64 (Nat.le_refl _) (fitsC_R64 e.2), linOf_len _ 64, linOf_right _ 64 (Nat.le_refl _)⟩
  · rw [if_neg e]
    refine ⟨⟨by simp, by simp⟩, ?_, by simp, rfl⟩
    intro m hm
    cases hm

/-! ### Val28 -/
/-- A variable's value, 0 where none is told. -/
def xv (x : List Int) (v : Nat) : Int := if (v : Int) < (x.length : Int) then rd x v else 0
/-- The monomials' value. -/
def valL (l : List S51) (x : List Int) : Int := l.foldl (evalStep x) 0
theorem valL_cons (m : S51) (l : List S51) (x : List Int) (h0 : 0 ≤ m.f0) : valL (m :: l) x = m.f1 * xv x m.f0.toNat + valL l x := by
  unfold valL
  rw [List.foldl_cons, evalFold_add]
  congr 1
  unfold evalStep xv
  rw [show ((m.f0.toNat : Nat) : Int) = m.f0 by omega]
  split <;> simp
theorem valL_append (a b : List S51) (x : List Int) : valL (a ++ b) x = valL a x + valL b x := by
  unfold valL
  rw [List.foldl_append, evalFold_add x b]
theorem evalSum_val (K : Int) (l : List S51) (x : List Int) : evalSum K l x = K + valL l x := evalSum_eq K l x
theorem valL_sg (x : List Int) : ∀ (l : List S51), (∀ m ∈ l, 0 ≤ m.f0 ∧ m.f0 < 64) → valL l x = sg 64 (fun v => coef l v * xv x v) := by
  intro l
  induction l with
  | nil => intro _; simp only [coef, Int.zero_mul, sg_zero]; rfl
  | cons m l ih =>
    intro h
    have hm := h m (List.mem_cons_self ..)
    rw [valL_cons m l x hm.1, ih (fun a ha => h a (List.mem_cons_of_mem _ ha))]
    simp only [coef, Int.add_mul]
    rw [sg_add]
    congr 1
    rw [sg_congr (g := fun i => if m.f0.toNat = i then m.f1 * xv x m.f0.toNat else 0) (fun i hi => ?_), sg_one 64 _ (by omega)]
    by_cases e : m.f0.toNat = i
    · rw [if_pos e, if_pos (by omega), e]
    · rw [if_neg e, if_neg (by omega), Int.zero_mul]
theorem linOf_val (c : Nat → Int) (x : List Int) : ∀ n, valL (linOf c n) x = sg n (fun v => c v * xv x v) := by
  intro n
  induction n with
  | zero => rfl
  | succ n ih =>
    rw [linOf_succ, valL_append, ih]
    simp only [sg]
    congr 1
    by_cases e : c n = 0
    · rw [if_pos e, e, Int.zero_mul]; rfl
    · rw [if_neg e, valL_cons _ _ _ (by simp only; omega)]
      simp [valL]
/-- The value of a sum. -/
def vS (x : List Int) : List S55 → Int
  | [] => 0
  | y :: l => (y.f0.f0 + valL y.f0.f1 x) * y.f1 + vS x l
theorem vS_eq (x : List Int) : ∀ l : List S55, G67 l → vS x l = kS l + sg 64 (fun v => csum l v * xv x v) := by
  intro l
  induction l with
  | nil => intro _; simp only [vS, kS, csum, Int.zero_mul, sg_zero]; rfl
  | cons y l ih =>
    intro h
    have hy := h y (List.mem_cons_self ..)
    simp only [vS, kS, csum]
    rw [ih (G67_tail h), valL_sg x y.f0.f1 (rightL_vars hy.2.1), Int.add_mul]
    rw [sg_congr (f := fun v => (coef y.f0.f1 v * y.f1 + csum l v) * xv x v) (g := fun v => coef y.f0.f1 v * xv x v * y.f1 + csum l v * xv x v) (fun i _ => by rw [Int.add_mul, Int.mul_assoc, Int.mul_comm y.f1, ← Int.mul_assoc]), sg_add, sg_mul]
    omega
theorem sumR_val (x : List Int) (l : List S55) (h : G67 l) (ho : (sumR l).2.2 = 0) : (sumR l).1 + valL (sumR l).2.1 x = vS x l := by
  unfold sumR at ho ⊢
  by_cases e : R64 (kS l) ∧ fitsC (csum l) = true
  · rw [if_pos e]
    simp only
    rw [linOf_val, vS_eq x l h]
  · rw [if_neg e] at ho; simp at ho

/-! ### Not28 -/
theorem Add_ev (K : Int) (l : List S51) (K2 : Int) (l2 : List S51) (hK : R64 K) (hl : M64 l) (hlen : l.length ≤ 9223372036854775807) (hK2 : R64 K2) (hl2 : M64 l2) (hlen2 : l2.length ≤ 9223372036854775807) :
    Ev (fun k => lin_Add.f k K l K2 l2) (sumD [⟨K, l⟩, ⟨K2, l2⟩] [1, 1]) := by
  refine Ev.bind (linSum_ev _ _ (by
    intro q hq
    simp at hq
    rcases hq with e | e
    · subst e; exact ⟨hK, hl, hlen⟩
    · subst e; exact ⟨hK2, hl2, hlen2⟩) (by intro y hy; simp at hy; subst hy; exact ⟨by simp, by simp⟩) (by simp)) (Ev.now fun _ => rfl)
theorem sumD_fine (l0 : List S28) (l1 : List Int) : R64 (sumD l0 l1).1 ∧ M64 (sumD l0 l1).2.1 ∧ (sumD l0 l1).2.1.length ≤ 64 ∧ rightL (-1) (sumD l0 l1).2.1 = true := by
  unfold sumD
  split
  · exact sumR_fine _
  · refine ⟨⟨by simp, by simp⟩, ?_, by simp, rfl⟩
    intro m hm
    cases hm
/-- What denies an inequality. -/
def notD (K : Int) (l : List S51) (b : Bool) : Int × List S51 × Bool × Int :=
  if rightL (-1) l = true ∧ b = false then
    (if (sumD [⟨K, l⟩] [-1]).2.2 = 0 then
      (if (sumD [⟨(sumD [⟨K, l⟩] [-1]).1, (sumD [⟨K, l⟩] [-1]).2.1⟩, ⟨1, []⟩] [1, 1]).2.2 = 0 then ((sumD [⟨(sumD [⟨K, l⟩] [-1]).1, (sumD [⟨K, l⟩] [-1]).2.1⟩, ⟨1, []⟩] [1, 1]).1, (sumD [⟨(sumD [⟨K, l⟩] [-1]).1, (sumD [⟨K, l⟩] [-1]).2.1⟩, ⟨1, []⟩] [1, 1]).2.1, false, 0)
       else (0, [], false, (sumD [⟨(sumD [⟨K, l⟩] [-1]).1, (sumD [⟨K, l⟩] [-1]).2.1⟩, ⟨1, []⟩] [1, 1]).2.2))
     else (0, [], false, (sumD [⟨K, l⟩] [-1]).2.2))
  else (0, [], false, 1)
theorem sumD_right {l0 : List S28} {l1 : List Int} (hr : l0.all (fun q => rightL (-1) q.f1) = true) (he : l0.length = l1.length) : sumD l0 l1 = sumR (zipS l0 l1) := by
  unfold sumD; rw [if_pos ⟨hr, he⟩]
theorem not_fine {K : Int} (l : List S51) (b : Bool) : R64 (notD K l b).1 ∧ M64 (notD K l b).2.1 ∧ (notD K l b).2.1.length ≤ 64 ∧ rightL (-1) (notD K l b).2.1 = true := by
  have z : R64 (0:Int) ∧ M64 [] ∧ ([] : List S51).length ≤ 64 ∧ rightL (-1) [] = true := ⟨⟨by simp, by simp⟩, (by intro m hm; cases hm), by simp, rfl⟩
  unfold notD
  repeat' split
  · exact sumD_fine _ _
  · exact z
  · exact z
  · exact z

/-! ### Ref28 -/
/-- The reference's totals, of a number of 192 bits. -/
def tHi (s : Int) : Int := hiW (s / 18446744073709551616)
def tMid (s : Int) : Int := loW (s / 18446744073709551616)
def tLow (s : Int) : Int := s % 18446744073709551616
theorem hiW_small {p : Int} (h1 : -85070591730234615865843651857942052864 ≤ p) (h2 : p ≤ 85070591730234615865843651857942052864) : hiW p = p / 18446744073709551616 := by
  unfold hiW; exact w64 (by omega) (by omega)
theorem tot0 : tHi 0 = 0 ∧ tMid 0 = 0 ∧ tLow 0 = 0 := ⟨by unfold tHi hiW wrap64; omega, by unfold tMid loW; omega, by unfold tLow; omega⟩
def fitR (s : Int) : Int × Bool := if R64 s then (s, true) else (0, false)
theorem fitI_R (s : Int) : fitI s = fitR s := rfl
/-! ### RefSum28 -/
theorem zipS_cons (q : S28) (l0 : List S28) (b : Int) (l1 : List Int) : zipS (q :: l0) (b :: l1) = ⟨q, b⟩ :: zipS l0 l1 := rfl
theorem kS_zip_le (l0 : List S28) (l1 : List Int) (i : Nat) (h : G67 (zipS l0 l1)) : G67 (zipS (l0.drop i) (l1.drop i)) := by
  intro x hx
  refine h x ?_
  unfold zipS at hx ⊢
  rw [← List.drop_zipWith] at hx
  exact List.mem_of_mem_drop hx
theorem fitR_2 (n : Int) : (fitR n).2 = decide (R64 n) := by
  unfold fitR; by_cases h : R64 n
  · rw [if_pos h, decide_eq_true h]
  · rw [if_neg h, decide_eq_false h]
/-! ### Coef27 -/
/-- How many times a variable stands in a form: what is met first. -/
def coefI : List S51 → Int → Int
  | [], _ => 0
  | m :: l, v => if m.f0 = v then m.f1 else coefI l v
theorem coefI_coef : ∀ (l : List S51) (last : Int), rightL last l = true → -1 ≤ last → ∀ v : Nat, coefI l v = coef l v := by
  intro l
  induction l with
  | nil => intro _ _ _ v; rfl
  | cons m l ih =>
    intro last h hl v
    have hr := h
    simp only [rightL, Bool.and_eq_true, decide_eq_true_eq] at h
    simp only [coefI, coef]
    by_cases e : m.f0 = (v : Int)
    · rw [if_pos e, if_pos e, coef_none l m.f0 h.2 v (by omega), Int.add_zero]
    · rw [if_neg e, if_neg e, Int.zero_add]; exact ih m.f0 h.2 (by omega) v

/-! ### Ref27 -/
/-- A total: its upper and its lower sum, and what it comes to. -/
def tv (H L : Int) : Int := H * 18446744073709551616 + L
/-! ### RefSum27 -/
/-- What a place of a sum comes to: -1 the constant's, else the variable's. -/
def pt (v : Int) (q : S28) : Int := if v < 0 then q.f0 else coefI q.f1 v
def ps (v : Int) : List S55 → Int
  | [] => 0
  | x :: l => pt v x.f0 * x.f1 + ps v l
theorem ps_neg (l : List S55) : ps (-1) l = kS l := by
  induction l with
  | nil => rfl
  | cons x l ih => simp only [ps, kS, pt]; rw [ih, if_pos (by omega)]
theorem ps_nat (v : Nat) : ∀ l : List S55, G67 l → ps (v : Int) l = csum l v := by
  intro l
  induction l with
  | nil => intro _; rfl
  | cons x l ih =>
    intro h
    have hx := h x (List.mem_cons_self ..)
    simp only [ps, csum, pt]
    rw [ih (G67_tail h), if_neg (by omega), coefI_coef x.f0.f1 (-1) hx.2.1 (by omega) v]
theorem coefI_R64 : ∀ (l : List S51) (v : Int), M64 l → R64 (coefI l v) := by
  intro l v
  induction l with
  | nil => intro _; exact ⟨by simp [coefI], by simp [coefI]⟩
  | cons m l ih =>
    intro hM
    simp only [coefI]
    split
    · exact (hM m (List.mem_cons_self ..)).2
    · exact ih (fun a ha => hM a (List.mem_cons_of_mem _ ha))
theorem st_tv {H L p r t : Int} (h : tv H L + (p + r) = t) : tv (H + p / 18446744073709551616) (L + p % 18446744073709551616) + r = t := by unfold tv at *; omega
theorem st_lo {i H p : Int} (b : -(i * 9223372036854775808) ≤ H) (hp : -85070591730234615865843651857942052864 ≤ p) : -((i + 1) * 9223372036854775808) ≤ H + p / 18446744073709551616 := by omega
theorem st_hi {i H p : Int} (b : H ≤ i * 9223372036854775808) (hp : p ≤ 85070591730234615865843651857942052864) : H + p / 18446744073709551616 ≤ (i + 1) * 9223372036854775808 := by omega
theorem st_nn {L p : Int} (b : 0 ≤ L) : 0 ≤ L + p % 18446744073709551616 := by omega
theorem st_up {i L p : Int} (b : L ≤ i * 18446744073709551616) : L + p % 18446744073709551616 ≤ (i + 1) * 18446744073709551616 := by omega
theorem tot27 : hiW 0 = 0 ∧ loW 0 = 0 := ⟨hiW0, loW0⟩
/-! ### Base27 -/
theorem monos_l0 (l : List S51) (hlen : l.length ≤ 1000000) : ∀ (n i : Nat), l.length - i = n → i ≤ l.length → Ev (fun k => sequiturbase_Monos.l0 k l l i) true := by
  intro n
  induction n with
  | zero =>
    intro i h1 h2
    refine Ev.succ (Ev.now fun k => ?_)
    simp only [sequiturbase_Monos.l0]
    rw [if_neg (by omega)]
  | succ n ih =>
    intro i h1 h2
    refine Ev.succ (Ev.of (ih (i+1) (by omega) (by omega)) fun k => ?_)
    simp only [sequiturbase_Monos.l0]
    rw [if_pos (by omega), if_pos (by omega), if_pos (by omega), if_neg (by simp), w64 (by omega) (by omega)]; rfl
theorem baseLin_ev (K : Int) (l : List S51) (hlen : l.length ≤ 1000000) : Ev (fun k => sequiturbase_Lin.f k K l K l) true := by
  have hm : Ev (fun k => sequiturbase_Monos.f k l l) true := Ev.pos rfl (monos_l0 l hlen _ 0 rfl (by omega))
  exact Ev.pos rfl (Ev.bind hm (Ev.now fun _ => rfl))
theorem long_l0 (l : List S28) (hlen : l.length ≤ 1000000) : ∀ (n i : Nat), l.length - i = n → i ≤ l.length → Ev (fun k => sequiturref27_Long.l0 k l i) (!((l.drop i).all fun q => decide (q.f1.length ≤ 70))) := by
  intro n
  induction n with
  | zero =>
    intro i h1 h2
    refine Ev.succ (Ev.now fun k => ?_)
    simp only [sequiturref27_Long.l0]
    rw [if_neg (by omega), List.drop_eq_nil_of_le (by omega)]; rfl
  | succ n ih =>
    intro i h1 h2
    have hi : i < l.length := by omega
    rw [List.drop_eq_getElem_cons hi, List.all_cons]
    refine Ev.succ ?_
    simp only [sequiturref27_Long.l0]
    rw [rdQ_at l i hi]
    refine Ev.pos (by omega) (Ev.pos (by omega) ?_)
    by_cases e : l[i].f1.length ≤ 70
    · refine Ev.neg (by omega) (((ih (i+1) (by omega) (by omega)).of fun k => ?_).val ?_)
      · rw [w64 (by omega) (by omega)]; rfl
      · rw [decide_eq_true e, Bool.true_and]
    · refine Ev.pos (by omega) (Ev.now fun _ => ?_)
      rw [decide_eq_false e]; rfl
def longD (l : List S28) (n : Int) : Bool := decide ((l.length : Int) > n) || !(l.all fun q => decide (q.f1.length ≤ 70))
theorem Long_ev (l : List S28) (n : Int) (hn : n ≤ 1000000) : Ev (fun k => sequiturref27_Long.f k l n) (longD l n) := by
  unfold longD
  by_cases e : (l.length : Int) > n
  · refine Ev.pos e (Ev.now fun _ => ?_)
    rw [decide_eq_true e]; rfl
  · refine Ev.neg e ((long_l0 l (by omega) _ 0 rfl (by omega)).val ?_)
    rw [decide_eq_false e, List.drop_zero, Bool.false_or]
theorem long_not {l : List S28} {n : Int} (h : longD l n = false) : (l.length : Int) ≤ n ∧ ∀ q ∈ l, q.f1.length ≤ 70 := by
  unfold longD at h
  rw [Bool.or_eq_false_iff] at h
  refine ⟨by simpa using h.1, fun q hq => ?_⟩
  have h2 : (l.all fun q => decide (q.f1.length ≤ 70)) = true := by simpa using h.2
  simpa using List.all_eq_true.1 h2 q hq

/-! ### Alive27 -/
theorem dec_one {i : Nat} (h : i < 10) : Lib.decDigits i = [UInt8.ofNat (48 + i)] := Lib.decDigits_one h
theorem text_ex : lin_Text.f 4 [⟨3, -1⟩] = some ⟨#[45, 49, 120, 51, 32, 43, 32, 52]⟩ := by
  have h1 : Lib.decDigits 1 = [49] := dec_one (by decide)
  have h3 : Lib.decDigits 3 = [51] := dec_one (by decide)
  have h4 : Lib.decDigits 4 = [52] := dec_one (by decide)
  have i3 : Lib.itoa 3 = [51] := by unfold Lib.itoa; rw [if_neg (by decide)]; exact h3
  have hok : textOk 4 [⟨3, -1⟩] = true := by decide
  unfold lin_Text.f
  rw [if_pos hok]
  have hf : textFold [⟨3, -1⟩] = [45, 49, 120, 51] := by
    unfold textFold
    simp only [List.foldl_cons, List.foldl_nil]
    unfold textStep Txt.partL
    rw [i3, show (-1 : Int).natAbs = 1 from rfl, h1]; rfl
  unfold textAll
  rw [hf, if_neg (by decide)]
  unfold Txt.partL
  rw [show (4 : Int).natAbs = 4 from rfl, h4]; rfl
theorem add_ex : lin_Add.f 200 5 [⟨0, 3⟩, ⟨1, -2⟩] (-5) [⟨1, 2⟩] = some (0, [⟨0, 3⟩], 0) := by kernel_rfl
theorem put_ex : lin_Put.f 200 0 [⟨0, 3⟩, ⟨1, -2⟩] 1 1 [⟨0, 1⟩] = some (-2, [⟨0, 1⟩], 0) := by kernel_rfl
theorem base_ex1 : sequiturbase_Lin.f 200 0 [⟨0, 3⟩] 0 [⟨0, 3⟩] = some true := by decide +kernel
theorem base_ex2 : sequiturbase_Lin.f 200 (-2) [⟨0, 1⟩] (-2) [⟨0, 1⟩] = some true := by decide +kernel
theorem alive27_ev : Ev (fun k => sequiturlaw27_alive.f k) true := Ev.mono 200 sequiturlaw27_alive.mono (by
  unfold sequiturlaw27_alive.f sequiturlaw27_form.f
  simp only [Option.bind_some]
  rw [add_ex]
  simp only [Option.bind_some]
  rw [put_ex]
  simp only [Option.bind_some, if_true]
  rw [base_ex1]
  simp only [Option.bind_some, if_true]
  rw [base_ex2]
  simp only [Option.bind_some, if_true]
  rw [text_ex]
  simp only [Option.bind_some]
  decide +kernel)

/-! ### PureLinValues -/
theorem eval_zero {K : Int} {l : List S51} {x : List Int} {a e : Int} (h : (a, e) = (if rightL (-1) l = true then (if (fit64 (evalSum K l x)).2 = true then ((fit64 (evalSum K l x)).1, 0) else (0, 5)) else (0, 1))) (he : e = 0) : rightL (-1) l = true ∧ a = K + valL l x := by
  by_cases r : rightL (-1) l = true
  · rw [if_pos r] at h
    by_cases c : (fit64 (evalSum K l x)).2 = true
    · rw [if_pos c] at h
      rw [fit64_2, decide_eq_true_eq] at c
      rw [fit64_R c] at h
      simp only [Prod.mk.injEq] at h
      rw [evalSum_val] at h
      exact ⟨r, h.1⟩
    · rw [if_neg c] at h
      simp only [Prod.mk.injEq] at h
      omega
  · rw [if_neg r] at h
    simp only [Prod.mk.injEq] at h
    omega
theorem LinValues_lv (K : Int) (l : List S51) (K2 : Int) (l2 : List S51) (b0 b1 : Int) (x : List Int) (hK : R64 K) (hl : M64 l) (hK2 : R64 K2) (hl2 : M64 l2) (hb0 : R64 b0) (hb1 : R64 b1) (hx : I64 x) (n1 : l.length ≤ 1000000) (n2 : l2.length ≤ 1000000) : LV K l K2 l2 b0 b1 x := by
  obtain ⟨k1, h1⟩ := (Eval_ev K l x hK hl hx (by omega)).at_
  obtain ⟨k2, h2⟩ := (Eval_ev K2 l2 x hK2 hl2 hx (by omega)).at_
  have q2 : ∀ q ∈ [(⟨K, l⟩ : S28), ⟨K2, l2⟩], R64 q.f0 ∧ M64 q.f1 ∧ q.f1.length ≤ 9223372036854775807 := by
    intro q hq
    simp at hq
    rcases hq with h | h
    · subst h; exact ⟨hK, hl, (show l.length ≤ _ by omega)⟩
    · subst h; exact ⟨hK2, hl2, (show l2.length ≤ _ by omega)⟩
  have i2 : I64 [b0, b1] := by intro y hy; simp at hy; rcases hy with h | h <;> subst h <;> assumption
  obtain ⟨k3, h3⟩ := (linSum_ev [⟨K, l⟩, ⟨K2, l2⟩] [b0, b1] q2 i2 (by simp)).at_
  have hf := sumD_fine [⟨K, l⟩, ⟨K2, l2⟩] [b0, b1]
  obtain ⟨k4, h4⟩ := (Eval_ev (sumD [⟨K, l⟩, ⟨K2, l2⟩] [b0, b1]).1 (sumD [⟨K, l⟩, ⟨K2, l2⟩] [b0, b1]).2.1 x hf.1 hf.2.1 hx (by omega)).at_
  obtain ⟨k5, h5⟩ := (Right_ev (sumD [⟨K, l⟩, ⟨K2, l2⟩] [b0, b1]).1 (sumD [⟨K, l⟩, ⟨K2, l2⟩] [b0, b1]).2.1 (by omega)).at_
  rw [if_pos hf.2.2.2] at h4 h5
  obtain ⟨P1, e1⟩ : ∃ P, P = (if rightL (-1) l = true then (if (fit64 (evalSum K l x)).2 = true then ((fit64 (evalSum K l x)).1, (0 : Int)) else (0, 5)) else (0, 1)) := ⟨_, rfl⟩
  obtain ⟨P2, e2⟩ : ∃ P, P = (if rightL (-1) l2 = true then (if (fit64 (evalSum K2 l2 x)).2 = true then ((fit64 (evalSum K2 l2 x)).1, (0 : Int)) else (0, 5)) else (0, 1)) := ⟨_, rfl⟩
  obtain ⟨P4, e4⟩ : ∃ P, P = (if (fit64 (evalSum (sumD [⟨K, l⟩, ⟨K2, l2⟩] [b0, b1]).1 (sumD [⟨K, l⟩, ⟨K2, l2⟩] [b0, b1]).2.1 x)).2 = true then ((fit64 (evalSum (sumD [⟨K, l⟩, ⟨K2, l2⟩] [b0, b1]).1 (sumD [⟨K, l⟩, ⟨K2, l2⟩] [b0, b1]).2.1 x)).1, (0 : Int)) else (0, 5)) := ⟨_, rfl⟩
  rw [← e1] at h1
  rw [← e2] at h2
  rw [← e4] at h4
  obtain ⟨a, e⟩ := P1
  obtain ⟨b, f⟩ := P2
  obtain ⟨n, h⟩ := P4
  refine ⟨⟨a, e, b, f, (sumD [⟨K, l⟩, ⟨K2, l2⟩] [b0, b1]).1, (sumD [⟨K, l⟩, ⟨K2, l2⟩] [b0, b1]).2.1, (sumD [⟨K, l⟩, ⟨K2, l2⟩] [b0, b1]).2.2, n, h, 0, k1, k2, k3, k4, k5, h1, h2, h3, h4, h5, ?_⟩⟩
  intro he hf0 hg ha hb ha' hb' c1 c2 c3 c4
  obtain ⟨r1, v1⟩ := eval_zero e1 he
  obtain ⟨r2, v2⟩ := eval_zero e2 hf0
  have hd : sumD [⟨K, l⟩, ⟨K2, l2⟩] [b0, b1] = sumR (zipS [⟨K, l⟩, ⟨K2, l2⟩] [b0, b1]) := sumD_right (by simp [r1, r2]) rfl
  have hG : G67 (zipS [⟨K, l⟩, ⟨K2, l2⟩] [b0, b1]) := zipS_G67 (fun q hq => ⟨(q2 q hq).1, (q2 q hq).2.1⟩) (by simp [r1, r2]) i2
  rw [hd] at hg e4
  have hv := sumR_val x _ hG hg
  rw [evalSum_val, hv] at e4
  have hvs : vS x (zipS [⟨K, l⟩, ⟨K2, l2⟩] [b0, b1]) = a * b0 + b * b1 := by
    show (K + valL l x) * b0 + ((K2 + valL l2 x) * b1 + 0) = _
    rw [← v1, ← v2]; omega
  rw [hvs] at e4
  have m1 := mul_bd ha' ha c1 c2
  have m2 := mul_bd hb' hb c3 c4
  have hR : R64 (a * b0 + b * b1) := ⟨by omega, by omega⟩
  rw [fit64_R hR, if_pos rfl] at e4
  simp only [Prod.mk.injEq] at e4
  exact ⟨e4.2, rfl, e4.1⟩
theorem LinValues_alive : ∃ k, sequiturlaw27_alive.f k = some true := alive27_ev.at_
theorem LinValues_long (K : Int) (l : List S51) (K2 : Int) (l2 : List S51) : ∃ k, sequiturref27_Long.f k [⟨K, l⟩, ⟨K2, l2⟩] 2 = some (longD [⟨K, l⟩, ⟨K2, l2⟩] 2) := (Long_ev [⟨K, l⟩, ⟨K2, l2⟩] 2 (by omega)).at_
theorem long_len1 {K : Int} {l : List S51} {K2 : Int} {l2 : List S51} (h : longD [⟨K, l⟩, ⟨K2, l2⟩] 2 = false) : l.length ≤ 1000000 := by
  have := (long_not h).2 ⟨K, l⟩ (by simp)
  exact Nat.le_trans this (by decide)
theorem long_len2 {K : Int} {l : List S51} {K2 : Int} {l2 : List S51} (h : longD [⟨K, l⟩, ⟨K2, l2⟩] 2 = false) : l2.length ≤ 1000000 := by
  have := (long_not h).2 ⟨K2, l2⟩ (by simp)
  exact Nat.le_trans this (by decide)

/-! ### OpenRow -/
open Go.ChangeShapes Go.WideShapes
theorem list_of {α : Type} (n : Nat) (p : Nat → α → Prop) (h : ∀ i, i < n → ∃ x, p i x) : ∃ l : List α, l.length = n ∧ ∀ i x, l[i]? = some x → p i x := by
  induction n with
  | zero => exact ⟨[], rfl, by simp⟩
  | succ n ih =>
    obtain ⟨l, hl, hp⟩ := ih (fun i hi => h i (by omega))
    obtain ⟨x, hx⟩ := h n (by omega)
    refine ⟨l ++ [x], by simp [hl], fun i y hy => ?_⟩
    rcases Nat.lt_or_ge i n with q | q
    · rw [List.getElem?_append_left (by omega)] at hy; exact hp i y hy
    · rw [List.getElem?_append_right (by omega)] at hy
      have : i - l.length = 0 := by
        rcases Nat.eq_zero_or_pos (i - l.length) with e | e
        · exact e
        · rw [List.getElem?_eq_none (by simp; omega)] at hy; cases hy
      rw [this] at hy
      obtain rfl : x = y := by simpa using hy
      rw [show i = n by omega]; exact hx
/-- An argument that is a slice, opened: a list of what its elements are. -/
theorem open_row {H : Type} {enc : TypeId × Value → H} {W : World} {held : Bool} {α : Type} (d : Kd α) (Q : α → Prop) {t e : TypeId} {spare : Nat → Bool} {fuel : Nat} {A : Option Addr} {n c : Nat} {x : DataW H × List MemPlace}
    (ht : Tryd.prog.underlying t = some (.slice e)) (hsz : Tryd.prog.cellsOf e = d.sz)
    (ho : ∀ m cs y, DataW.trod enc Tryd.prog W 0 spare held m e cs = some y → ∃ x, d.K W x cs ∧ Q x)
    (h : DataW.trod enc Tryd.prog W 0 spare held fuel t [.slice A n c] = some x) :
    ∃ l : List α, l.length = n ∧ n ≤ c ∧ c ≤ maxLen ∧ d.C W A n l ∧ ∀ x ∈ l, Q x := by
  rcases Go.Deep.open_slice ht h with ⟨hcs, _⟩ | ⟨a, len, cap, m, n', D, Pl, hcs, _, hl, hm, hmm, _, hi⟩
  · simp at hcs
    obtain ⟨rfl, rfl, rfl⟩ := hcs
    exact ⟨[], rfl, Nat.le_refl _, Nat.zero_le _, Kd.C_nil d W, by simp⟩
  · simp at hcs
    obtain ⟨rfl, rfl, rfl⟩ := hcs
    have hmn : n ≤ m := by rw [hmm]; split <;> omega
    obtain ⟨l, h1, h2⟩ := list_of n (fun i x => (∃ cs, cs.length = d.sz ∧ d.K W x cs ∧ ∀ j u, cs[j]? = some u → W.cell? (a.add (i * d.sz + j)) = some u) ∧ Q x) (fun i hin => by
      obtain ⟨cs, hc, hx⟩ := hi i (by omega)
      obtain ⟨x, hK, hQ⟩ := ho _ _ _ hx
      obtain ⟨_, hlen, hat⟩ := World.cells?_some hc
      refine ⟨x, ⟨cs, hlen.trans hsz, hK, fun j u hj => ?_⟩, hQ⟩
      have hjl : j < cs.length := by
        rcases Nat.lt_or_ge j cs.length with q | q
        · exact q
        · rw [List.getElem?_eq_none q] at hj; cases hj
      rw [← hj, ← hat j (by omega), hsz, Go.Deep.add_add])
    refine ⟨l, h1, hl, hm, ⟨h1, ?_, fun _ => ⟨a, rfl, fun j p hj => (h2 j p hj).1⟩⟩, fun x hx => ?_⟩
    · have : maxLen = 9223372036854775807 := rfl
      omega
    · obtain ⟨i, hi', he⟩ := List.getElem_of_mem hx
      exact (h2 i x (by rw [List.getElem?_eq_getElem hi', he])).2
theorem open_int1 {H : Type} {enc : TypeId × Value → H} {W : World} {held : Bool} {spare : Nat → Bool} {m : Nat} {e : TypeId} (hu : Tryd.prog.underlying e = some (.int .i64)) (cs : List Value) (y : DataW H × List MemPlace) (h : DataW.trod enc Tryd.prog W 0 spare held m e cs = some y) :
    ∃ x : Int, (Kd.int .i64).K W x cs ∧ (-9223372036854775808 ≤ x ∧ x ≤ 9223372036854775807) := by
  obtain ⟨n, rfl, _, hw⟩ := DataW.trod_int hu h
  exact ⟨n, rfl, wf64 hw⟩
theorem open_ints1 {H : Type} {enc : TypeId × Value → H} {W : World} {held : Bool} {spare : Nat → Bool} {fuel : Nat} {t e : TypeId} {A : Option Addr} {n c : Nat} {x : DataW H × List MemPlace} (hu : Tryd.prog.underlying t = some (.slice e)) (he : Tryd.prog.underlying e = some (.int .i64)) (hc : Tryd.prog.cellsOf e = 1)
    (h : DataW.trod enc Tryd.prog W 0 spare held fuel t [.slice A n c] = some x) :
    ∃ l : List Int, l.length = n ∧ n ≤ c ∧ c ≤ maxLen ∧ Kd.C (Kd.int .i64) W A n l ∧ I64 l :=
  open_row (Kd.int .i64) _ hu hc (fun _ cs y h => open_int1 he cs y h) h

/-! ### OpenL.tmp -/
/-- A monomial's cells. -/
theorem open_mono {H : Type} {enc : TypeId × Value → H} {W : World} {held : Bool} {spare : Nat → Bool} {m : Nat} (cs : List Value) (y : DataW H × List MemPlace) (h : DataW.trod enc Tryd.prog W 0 spare held m 51 cs = some y) :
    ∃ x : S51, k51.K W x cs ∧ ((-9223372036854775808 ≤ x.f0 ∧ x.f0 ≤ 9223372036854775807) ∧ -9223372036854775808 ≤ x.f1 ∧ x.f1 ≤ 9223372036854775807) := by
  obtain ⟨y0, y1, n, _, hl, h0, h1⟩ := trod_struct2 Tryd.underlying51 h
  have e0 : Tryd.prog.cellsOf 3 = 1 := by kernel_rfl
  have e1 : Tryd.prog.cellsOf 2 = 1 := by kernel_rfl
  have e2 : Tryd.prog.cellsOf 51 = 2 := by kernel_rfl
  simp only [e0, e1] at h0 h1
  rw [e2] at hl
  match cs, hl with
  | [c0, c1], _ =>
    obtain ⟨a, ha, _, hw⟩ := DataW.trod_int Tryd.underlying3 h0
    obtain ⟨b, hb, _, hw2⟩ := DataW.trod_int Tryd.underlying2 h1
    simp at ha hb
    subst ha hb
    exact ⟨⟨a, b⟩, k51_mk W ⟨a, b⟩, wf64 hw, wf64 hw2⟩
/-- A form's cells. -/
theorem open_lin {H : Type} {enc : TypeId × Value → H} {W : World} {held : Bool} {spare : Nat → Bool} {m : Nat} (cs : List Value) (y : DataW H × List MemPlace) (h : DataW.trod enc Tryd.prog W 0 spare held m 28 cs = some y) :
    ∃ (x : S28) (A : Option Addr) (c : Nat), cs = [.int .i64 x.f0, .slice A x.f1.length c] ∧ x.f1.length ≤ c ∧ c ≤ maxLen ∧ Kd.C k51 W A x.f1.length x.f1 ∧ R64 x.f0 ∧ M64 x.f1 := by
  obtain ⟨y0, y1, n, _, hl, h0, h1⟩ := trod_struct2 Tryd.underlying28 h
  have e1 : Tryd.prog.cellsOf 2 = 1 := by kernel_rfl
  have e0 : Tryd.prog.cellsOf 26 = 1 := by kernel_rfl
  have e2 : Tryd.prog.cellsOf 28 = 2 := by kernel_rfl
  simp only [e0, e1] at h0 h1
  rw [e2] at hl
  match cs, hl with
  | [c0, c1], _ =>
    obtain ⟨a, ha, _, hw⟩ := DataW.trod_int Tryd.underlying2 h0
    simp at ha
    subst ha
    have h2 : DataW.trod enc Tryd.prog W 0 spare held n 26 [c1] = some y1 := h1
    have hs : ∃ A n c, c1 = .slice A n c := by
      rcases Go.Deep.open_slice Tryd.underlying26 h2 with ⟨hcs, _⟩ | ⟨a, len, cap, m, n', D, Pl, hcs, _⟩
      · simp at hcs; exact ⟨_, _, _, hcs⟩
      · simp at hcs; exact ⟨_, _, _, hcs⟩
    obtain ⟨A, len, c, rfl⟩ := hs
    obtain ⟨l, rfl, hc, hm, hC, hQ⟩ := open_row k51 _ Tryd.underlying26 (by kernel_rfl) (fun _ cs y h => open_mono cs y h) h2
    exact ⟨⟨a, l⟩, A, c, rfl, hc, hm, hC, wf64 hw, hQ⟩
theorem heap47 : Kd.Heap k51 := Kd.heap_iso _ (Kd.heap_pair (Kd.heap_int .i64) (Kd.heap_int .i64))
theorem V47 {W : World} {A : Option Addr} {c : Nat} {l : List S51} (hc : l.length ≤ c) (hC : Kd.C k51 W A l.length l) :
    Kd.V k51 51 W W.heap.size (fun k_ => k_ < W.heap.size) (.slice A l.length c) l := Kd.V_mk hc (Kd.F_below (Kd.C_F heap47 hC) (Below.refl _ _))

/-! ### Open27 -/
def Q28 (x : S28) : Prop := R64 x.f0 ∧ M64 x.f1 ∧ x.f1.length ≤ maxLen
theorem open_linK {H : Type} {enc : TypeId × Value → H} {W : World} {held : Bool} {spare : Nat → Bool} {m : Nat} (cs : List Value) (y : DataW H × List MemPlace) (h : DataW.trod enc Tryd.prog W 0 spare held m 28 cs = some y) :
    ∃ x : S28, k28.K W x cs ∧ Q28 x := by
  obtain ⟨x, A, c, rfl, hc, hm, hC, hr, hM⟩ := open_lin cs y h
  exact ⟨x, k28_mk W x hc hC, hr, hM, Nat.le_trans hc hm⟩
set_option maxRecDepth 100000 in
/-- A form that came in, by value. -/
theorem open_linV {H : Type} {enc : TypeId × Value → H} {W : World} {held : Bool} {spare : Nat → Bool} {r : Reach} {b0 : Nat} {v : Value} {d : DataW H} {p : List MemPlace} (hv : Value.okWide Tryd.prog W r b0 28 v) (h : DataW.Trod enc Tryd.prog W 0 spare held 28 v d p) :
    ∃ (x : S28) (A : Option Addr) (c : Nat), v = .agg #[.int .i64 x.f0, .slice A x.f1.length c] ∧ x.f1.length ≤ c ∧ c ≤ maxLen ∧ Kd.C k51 W A x.f1.length x.f1 ∧ R64 x.f0 ∧ M64 x.f1 := by
  obtain ⟨cs, rfl, _⟩ := okWide_struct Tryd.underlying28 hv
  obtain ⟨fuel, hf⟩ := h
  obtain ⟨x, A, c, hcs, rest⟩ := open_lin cs.toList _ hf
  exact ⟨x, A, c, congrArg Value.agg (Array.toList_inj.1 hcs), rest⟩

/-! ### OpenPair27 -/
set_option maxRecDepth 100000 in
/-- A pair of numbers that came in, by value. -/
theorem open_pairV {H : Type} {enc : TypeId × Value → H} {W : World} {held : Bool} {spare : Nat → Bool} {r : Reach} {b0 : Nat} {v : Value} {d : DataW H} {p : List MemPlace} (hv : Value.okWide Tryd.prog W r b0 34 v) (h : DataW.Trod enc Tryd.prog W 0 spare held 34 v d p) :
    ∃ a b : Int, v = .agg #[.int .i64 a, .int .i64 b] ∧ R64 a ∧ R64 b := by
  have hu := Tryd.underlying34
  simp only [Value.okWide, hu] at hv
  obtain ⟨cs, rfl, hrest⟩ := hv
  clear hrest
  obtain ⟨fuel, hf⟩ := h
  have hf' : DataW.trod enc Tryd.prog W 0 spare held fuel 34 cs.toList = some (d, p) := hf
  obtain ⟨xs, m, _, _, hl, hn, hel⟩ := DataW.trod_array hu hf'
  have c2 : Tryd.prog.cellsOf 2 = 1 := by kernel_rfl
  have c34 : Tryd.prog.cellsOf 34 = 2 := by kernel_rfl
  rw [c34] at hl
  obtain ⟨l⟩ := cs
  simp only at hl hel
  match l, hl, xs, hn, hel with
  | [c0, c1], _, [x0, x1], _, hel =>
    have h0 := hel 0 (by decide)
    have h1 := hel 1 (by decide)
    rw [c2] at h0 h1
    obtain ⟨a, ha, _, hw⟩ := DataW.trod_int Tryd.underlying2 (show DataW.trod enc Tryd.prog W 0 spare held m 2 [c0] = some x0 from h0)
    obtain ⟨b, hb, _, hw2⟩ := DataW.trod_int Tryd.underlying2 (show DataW.trod enc Tryd.prog W 0 spare held m 2 [c1] = some x1 from h1)
    simp at ha hb
    subst ha hb
    exact ⟨a, b, rfl, wf64 hw, wf64 hw2⟩

/-! ### OpenForms27 -/
set_option maxRecDepth 100000 in
/-- A pair of forms that came in, by value. -/
theorem open_formsV {H : Type} {enc : TypeId × Value → H} {W : World} {held : Bool} {spare : Nat → Bool} {r : Reach} {b0 : Nat} {v : Value} {d : DataW H} {p : List MemPlace} (hv : Value.okWide Tryd.prog W r b0 39 v) (h : DataW.Trod enc Tryd.prog W 0 spare held 39 v d p) :
    ∃ (x y : S28) (A : Option Addr) (c : Nat) (B : Option Addr) (d : Nat), v = .agg #[.int .i64 x.f0, .slice A x.f1.length c, .int .i64 y.f0, .slice B y.f1.length d] ∧ x.f1.length ≤ c ∧ c ≤ maxLen ∧ Kd.C k51 W A x.f1.length x.f1 ∧ R64 x.f0 ∧ M64 x.f1 ∧ y.f1.length ≤ d ∧ d ≤ maxLen ∧ Kd.C k51 W B y.f1.length y.f1 ∧ R64 y.f0 ∧ M64 y.f1 := by
  have hu := Tryd.underlying39
  simp only [Value.okWide, hu] at hv
  obtain ⟨cs, rfl, hrest⟩ := hv
  clear hrest
  obtain ⟨fuel, hf⟩ := h
  have hf' : DataW.trod enc Tryd.prog W 0 spare held fuel 39 cs.toList = some (d, p) := hf
  obtain ⟨xs, m, _, _, hl, hn, hel⟩ := DataW.trod_array hu hf'
  have c2 : Tryd.prog.cellsOf 28 = 2 := by kernel_rfl
  have c39 : Tryd.prog.cellsOf 39 = 4 := by kernel_rfl
  rw [c39] at hl
  obtain ⟨l⟩ := cs
  simp only at hl hel
  match l, hl, xs, hn, hel with
  | [c0, c1, e0, e1], _, [x0, x1], _, hel =>
    have h0 := hel 0 (by decide)
    have h1 := hel 1 (by decide)
    rw [c2] at h0 h1
    obtain ⟨x, A, c, hx, p1, p2, p3, p4, p5⟩ := open_lin _ _ (show DataW.trod enc Tryd.prog W 0 spare held m 28 [c0, c1] = some x0 from h0)
    obtain ⟨y, B, d, hy, q1, q2, q3, q4, q5⟩ := open_lin _ _ (show DataW.trod enc Tryd.prog W 0 spare held m 28 [e0, e1] = some x1 from h1)
    simp at hx hy
    obtain ⟨rfl, rfl⟩ := hx
    obtain ⟨rfl, rfl⟩ := hy
    exact ⟨x, y, A, c, B, d, rfl, p1, p2, p3, p4, p5, q1, q2, q3, q4, q5⟩

end Go.Proofs.YtmedciidghmkkaaDoor.Pure
