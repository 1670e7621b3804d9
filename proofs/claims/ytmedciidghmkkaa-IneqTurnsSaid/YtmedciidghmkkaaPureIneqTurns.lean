/- What denies an inequality, what is tight, and whether two are the same, is what the reference says: for every two inequalities (asked of at most 100 monomials each). -/
import Derived.Test.YtmedciidghmkkaaPIneqTurnsx
import Derived.Laws.BitsAllLaws
import Derived.Deep.Slices
import Derived.ChangeSame
import Derived.KernelRfl
namespace Go.Proofs.Ytmedciidghmkkaa.Pure
open Go.RowKit Go.Proofs.Ytmedciidghmkkaa.PIneqTurns Go.Proofs.YtmedciidghmkkaaW.PrintWords Go.Proofs.YtmedciidghmkkaaW.PrintLast
set_option linter.unusedVariables false
set_option linter.unusedSimpArgs false

/-! ### FitI -/
/-- A number, if it fits. -/
def fitI (n : Int) : Int × Bool := if -9223372036854775808 ≤ n ∧ n ≤ 9223372036854775807 then (n, true) else (0, false)
theorem abs_mul_lt {a b : Int} (h1 : -9223372036854775808 ≤ a) (h2 : a ≤ 9223372036854775807) (h3 : -9223372036854775808 ≤ b) (h4 : b ≤ 9223372036854775807) : a.natAbs * b.natAbs ≤ 85070591730234615865843651857942052864 :=
  Nat.le_trans (Nat.mul_le_mul (show a.natAbs ≤ 9223372036854775808 by omega) (show b.natAbs ≤ 9223372036854775808 by omega)) (by decide)


/-! ### NumCore -/
theorem odd_coprime_two {a : Nat} (h : a % 2 = 1) : Nat.Coprime a 2 := by
  have h1 : Nat.gcd a 2 ∣ 2 := Nat.gcd_dvd_right a 2
  have h2 : Nat.gcd a 2 ∣ a := Nat.gcd_dvd_left a 2
  have h3 : Nat.gcd a 2 ≤ 2 := Nat.le_of_dvd (by omega) h1
  have h4 : Nat.gcd a 2 ≠ 0 := fun e => by rw [e] at h1; simp at h1
  have h5 : Nat.gcd a 2 ≠ 2 := fun e => by rw [e] at h2; omega
  show Nat.gcd a 2 = 1
  omega

theorem gcd_odd_pow {a : Nat} (h : a % 2 = 1) (t b : Nat) : Nat.gcd a (2 ^ t * b) = Nat.gcd a b :=
  Nat.Coprime.gcd_mul_left_cancel_right b ((odd_coprime_two h).pow_right t).symm

theorem gcd_two_parts {oa ob ta tb : Nat} (ha : oa % 2 = 1) (hb : ob % 2 = 1) :
    Nat.gcd (2 ^ ta * oa) (2 ^ tb * ob) = Nat.gcd oa (2 ^ tb * ob) * 2 ^ min ta tb := by
  rw [gcd_odd_pow ha]
  rcases Nat.le_total ta tb with h | h
  · obtain ⟨d, rfl⟩ := Nat.exists_eq_add_of_le h
    rw [Nat.min_eq_left h, Nat.pow_add, Nat.mul_assoc, Nat.gcd_mul_left, gcd_odd_pow ha, Nat.mul_comm]
  · obtain ⟨d, rfl⟩ := Nat.exists_eq_add_of_le h
    rw [Nat.min_eq_right h, Nat.pow_add, Nat.mul_assoc, Nat.gcd_mul_left, Nat.gcd_comm, gcd_odd_pow hb, Nat.mul_comm, Nat.gcd_comm]

-- one round of the halving: x odd, y = 2^t * z, z odd
theorem gcd_round {x z t : Nat} (hx : x % 2 = 1) : Nat.gcd x (2 ^ t * z) = if z < x then Nat.gcd z (x - z) else Nat.gcd x (z - x) := by
  rw [gcd_odd_pow hx]
  split
  · rename_i h; rw [Nat.gcd_comm, Nat.gcd_sub_self_right (by omega)]
  · rename_i h; rw [Nat.gcd_sub_self_right (by omega)]

theorem mul64 (a b : Nat) (ha : a < 18446744073709551616) (hb : b < 18446744073709551616) :
    ((a / 4294967296) * (b / 4294967296) +
      ((a / 4294967296) * (b % 4294967296) + ((a % 4294967296) * (b % 4294967296)) / 4294967296) / 4294967296 +
      ((((a / 4294967296) * (b % 4294967296) + ((a % 4294967296) * (b % 4294967296)) / 4294967296) % 4294967296) + (a % 4294967296) * (b / 4294967296)) / 4294967296) = a * b / 18446744073709551616 := by
  have hab : a * b = (a / 4294967296) * (b / 4294967296) * 18446744073709551616 + ((a / 4294967296) * (b % 4294967296) + (a % 4294967296) * (b / 4294967296)) * 4294967296 + (a % 4294967296) * (b % 4294967296) := by
    have e1 : a = (a / 4294967296) * 4294967296 + a % 4294967296 := by omega
    have e2 : b = (b / 4294967296) * 4294967296 + b % 4294967296 := by omega
    generalize a / 4294967296 = x at *
    generalize a % 4294967296 = y at *
    generalize b / 4294967296 = u at *
    generalize b % 4294967296 = v at *
    subst e1 e2
    simp only [Nat.add_mul, Nat.mul_add]
    have : x * 4294967296 * (u * 4294967296) = x * u * 18446744073709551616 := by rw [Nat.mul_mul_mul_comm]
    have h2 : x * 4294967296 * v = x * v * 4294967296 := by rw [Nat.mul_right_comm]
    have h3 : y * (u * 4294967296) = y * u * 4294967296 := by rw [Nat.mul_assoc]
    omega
  rw [hab]
  generalize (a / 4294967296) * (b / 4294967296) = p
  generalize (a / 4294967296) * (b % 4294967296) = q
  generalize (a % 4294967296) * (b / 4294967296) = r
  generalize (a % 4294967296) * (b % 4294967296) = s
  omega

theorem u64w (n : Int) : IntKind.u64.wrap n = n % 18446744073709551616 := by
  simp [IntKind.wrap, IntKind.bits, IntKind.signed]
theorem wf64 {a : Int} (h : (Lit.int .i64 a).wf = true) : -9223372036854775808 ≤ a ∧ a ≤ 9223372036854775807 := by
  simpa [Lit.wf, IntKind.min, IntKind.max, IntKind.signed, IntKind.bits] using h
theorem w64 {n : Int} (h1 : -9223372036854775808 ≤ n) (h2 : n ≤ 9223372036854775807) : wrap64 n = n := by
  unfold wrap64; omega
theorem size_eq {a : Int} (h1 : -9223372036854775808 ≤ a) (h2 : a ≤ 9223372036854775807) : num_size.f a = some (a.natAbs : Int) := by
  unfold num_size.f
  simp only [u64w]
  split <;> congr 1 <;> omega

theorem shr_nat (n i : Nat) (hi : i ≤ 64) : shr .u64 (n:Int) (i:Int) = ((n / 2^i : Nat) : Int) := by
  unfold shr
  simp only [IntKind.bits, Int.toNat_natCast, Nat.min_eq_left hi]
  simp
theorem and_one (x : Nat) (h : x < 18446744073709551616) : Go.bits .and .u64 (x:Int) 1 = ((x % 2 : Nat) : Int) := by
  have := u64_and_nat x 1 h (by decide)
  simpa [Nat.and_one_is_mod] using this
theorem twos_l0 (n : Nat) (hn : 0 < n) (h : n < 18446744073709551616) : ∀ (d i : Nat), 64 - i = d → i < 64 → 2^i ∣ n →
    ∃ t : Nat, t < 64 ∧ 2^t ∣ n ∧ n / 2^t % 2 = 1 ∧ ∃ K, ∀ k, K ≤ k → num_twos.l0 k n i = some (t:Int) := by
  intro d
  induction d with
  | zero => intro i h1 h2; omega
  | succ d ih =>
    intro i h1 h2 h3
    have hlt : n / 2^i < 18446744073709551616 := Nat.lt_of_le_of_lt (Nat.div_le_self _ _) h
    by_cases e : n / 2^i % 2 = 1
    · refine ⟨i, h2, h3, e, 1, fun k hk => ?_⟩
      obtain ⟨m, rfl⟩ : ∃ m, k = m + 1 := ⟨k - 1, by omega⟩
      simp only [num_twos.l0]
      rw [if_pos (by omega), if_pos (by omega), shr_nat _ _ (by omega), and_one _ hlt, e]; rfl
    · obtain ⟨c, hc⟩ := h3
      have hp : 0 < 2^i := Nat.two_pow_pos i
      have hd : n / 2^i = c := by rw [hc]; exact Nat.mul_div_cancel_left _ hp
      obtain ⟨m, hm⟩ : ∃ m, c = 2 * m := ⟨c / 2, by omega⟩
      have hm0 : 0 < m := by
        rcases Nat.eq_zero_or_pos m with e | e
        · subst e; rw [hc, hm] at hn; simp at hn
        · exact e
      have hi : i + 1 < 64 := by
        rcases Nat.lt_or_ge (i+1) 64 with q | q
        · exact q
        · exfalso
          have : i = 63 := by omega
          subst this
          have : 2^63 * (2*1) ≤ n := by rw [hc, hm]; exact Nat.mul_le_mul_left _ (by omega)
          omega
      obtain ⟨t, a, b, c', ev⟩ := ih (i+1) (by omega) hi ⟨m, by rw [hc, hm, Nat.pow_succ, Nat.mul_assoc]⟩
      obtain ⟨K, ev⟩ := ev
      refine ⟨t, a, b, c', K + 1, fun k hk => ?_⟩
      obtain ⟨j, rfl⟩ : ∃ m, k = m + 1 := ⟨k - 1, by omega⟩
      simp only [num_twos.l0]
      rw [if_pos (by omega), if_pos (by omega), shr_nat _ _ (by omega), and_one _ hlt, if_neg (by omega), w64 (by omega) (by omega)]
      exact ev j (by omega)
theorem twos_ev (n : Nat) (hn : 0 < n) (h : n < 18446744073709551616) :
    ∃ t z : Nat, n = 2^t * z ∧ z % 2 = 1 ∧ t < 64 ∧ ∃ K, ∀ k, K ≤ k → num_twos.f k n = some (t:Int) := by
  obtain ⟨t, h1, h2, h3, h4⟩ := twos_l0 n hn h 64 0 rfl (by omega) (by simp)
  obtain ⟨z, hz⟩ := h2
  refine ⟨t, z, hz, ?_, h1, h4⟩
  rw [hz, Nat.mul_div_cancel_left _ (Nat.two_pow_pos t)] at h3; exact h3

theorem mul_pow_div (t z : Nat) : 2^t * z / 2^t = z := Nat.mul_div_cancel_left _ (Nat.two_pow_pos t)
theorem le_mul_pow (t z : Nat) : z ≤ 2^t * z := Nat.le_mul_of_pos_left _ (Nat.two_pow_pos t)

theorem common_l0 (both : Nat) : ∀ (s x y : Nat), x + y ≤ s → x % 2 = 1 → x < 18446744073709551616 → y < 18446744073709551616 →
    ∃ K, ∀ k, K ≤ k → num_common.l0 k x y both = some (shl .u64 (Nat.gcd x y) both) := by
  intro s
  induction s with
  | zero => intro x y h1 h2; omega
  | succ s ih =>
    intro x y h1 hx hx2 hy2
    by_cases hy : y = 0
    · subst hy
      refine ⟨1, fun k hk => ?_⟩
      obtain ⟨m, rfl⟩ : ∃ m, k = m + 1 := ⟨k - 1, by omega⟩
      simp only [num_common.l0]
      rw [if_pos (by omega), if_pos (by omega), Nat.gcd_zero_right]
    · obtain ⟨t, z, e, hz, ht, K, ev⟩ := twos_ev y (by omega) hy2
      have hs : shr .u64 (y:Int) (t:Int) = (z:Int) := by rw [shr_nat _ _ (by omega), e, mul_pow_div]
      have hzy : z ≤ y := by rw [e]; exact le_mul_pow t z
      have hg := gcd_round (x := x) (z := z) (t := t) hx
      rw [← e] at hg
      by_cases hlt : z < x
      · rw [if_pos hlt] at hg
        obtain ⟨K', ev'⟩ := ih z (x - z) (by omega) hz (by omega) (by omega)
        refine ⟨max K K' + 1, fun k hk => ?_⟩
        obtain ⟨m, rfl⟩ : ∃ m, k = m + 1 := ⟨k - 1, by omega⟩
        simp only [num_common.l0]
        rw [if_neg (by omega), ev m (by omega)]
        simp only [Option.bind_some]
        rw [if_pos (by omega), hs, if_pos (by omega), u64w, hg, show ((x:Int) - z) % 18446744073709551616 = ((x - z : Nat) : Int) by omega]
        exact ev' m (by omega)
      · rw [if_neg hlt] at hg
        obtain ⟨K', ev'⟩ := ih x (z - x) (by omega) hx (by omega) (by omega)
        refine ⟨max K K' + 1, fun k hk => ?_⟩
        obtain ⟨m, rfl⟩ : ∃ m, k = m + 1 := ⟨k - 1, by omega⟩
        simp only [num_common.l0]
        rw [if_neg (by omega), ev m (by omega)]
        simp only [Option.bind_some]
        rw [if_pos (by omega), hs, if_neg (by omega), u64w, hg, show ((z:Int) - x) % 18446744073709551616 = ((z - x : Nat) : Int) by omega]
        exact ev' m (by omega)

theorem or_zero_left (b : Nat) (h : b < 18446744073709551616) : Go.bits .or .u64 0 (b:Int) = (b:Int) := by
  have := u64_or_nat 0 b (by decide) h
  simpa using this
theorem or_zero_right (b : Nat) (h : b < 18446744073709551616) : Go.bits .or .u64 (b:Int) 0 = (b:Int) := by
  have := u64_or_nat b 0 h (by decide)
  simpa using this

theorem common_ev (a b : Nat) (ha : a < 18446744073709551616) (hb : b < 18446744073709551616) : ∃ K, ∀ k, K ≤ k → num_common.f k a b = some (Nat.gcd a b : Int) := by
  by_cases h0 : a = 0
  · subst h0
    refine ⟨1, fun k hk => ?_⟩
    obtain ⟨m, rfl⟩ : ∃ m, k = m + 1 := ⟨k - 1, by omega⟩
    unfold num_common.f
    simp [num_common.j0, or_zero_left b hb]
  by_cases h1 : b = 0
  · subst h1
    refine ⟨1, fun k hk => ?_⟩
    obtain ⟨m, rfl⟩ : ∃ m, k = m + 1 := ⟨k - 1, by omega⟩
    unfold num_common.f
    rw [if_neg (by omega)]
    simp [num_common.j0, or_zero_right a ha]
  obtain ⟨ta, oa, ea, hoa, hta, Ka, eva⟩ := twos_ev a (by omega) ha
  obtain ⟨tb, ob, eb, hob, htb, Kb, evb⟩ := twos_ev b (by omega) hb
  have hs : shr .u64 (a:Int) (ta:Int) = (oa:Int) := by rw [shr_nat _ _ (by omega), ea, mul_pow_div]
  have hle : oa ≤ a := by rw [ea]; exact le_mul_pow ta oa
  obtain ⟨K, ev⟩ := common_l0 (min ta tb) _ oa b (Nat.le_refl _) hoa (by omega) hb
  refine ⟨max (max Ka Kb) K + 1, fun k hk => ?_⟩
  obtain ⟨m, rfl⟩ : ∃ m, k = m + 1 := ⟨k - 1, by omega⟩
  unfold num_common.f
  rw [if_neg (by omega), show ((b:Int) == 0) = false from beq_eq_false_iff_ne.mpr (by omega)]
  simp only [num_common.j0]
  rw [if_neg (by simp), eva m (by omega)]
  simp only [Option.bind_some]
  rw [evb m (by omega)]
  simp only [Option.bind_some]
  rw [if_pos (by omega), hs, show mn (ta:Int) (tb:Int) = ((min ta tb : Nat) : Int) by unfold mn; split <;> omega, ev m (by omega)]
  congr 1
  unfold shl
  simp only [IntKind.bits, Int.toNat_natCast]
  rw [Nat.min_eq_left (show min ta tb ≤ 64 by omega), u64w]
  have hg := gcd_two_parts (ta := ta) (tb := tb) hoa hob
  rw [← ea, ← eb] at hg
  have hl : Nat.gcd a b ≤ a := Nat.gcd_le_left b (by omega)
  have : ((Nat.gcd oa b : Nat) : Int) * 2 ^ min ta tb = ((Nat.gcd a b : Nat) : Int) := by rw [hg]; simp
  rw [this]
  omega

theorem signed_ev (g : Nat) (h : g < 18446744073709551616) : num_signed.f g false = some (if g ≤ 9223372036854775807 then ((g:Int), true) else (0, false)) := by
  unfold num_signed.f num_told.f
  simp only [Bool.false_eq_true, if_false]
  by_cases e : g ≤ 9223372036854775807
  · rw [decide_eq_true (by omega), if_pos rfl, if_pos e, w64 (by omega) (by omega)]; rfl
  · rw [decide_eq_false (by omega), if_neg (by simp), if_neg e]; rfl

/-- The gcd of the sizes. -/
def gcdL (l : List Int) (g : Nat) : Nat := l.foldl (fun g n => Nat.gcd g n.natAbs) g
def fit (g : Nat) : Int × Bool := if g ≤ 9223372036854775807 then ((g:Int), true) else (0, false)
def I64 (l : List Int) : Prop := ∀ x ∈ l, -9223372036854775808 ≤ x ∧ x ≤ 9223372036854775807

theorem gcd_lt {a b : Nat} (ha : a < 18446744073709551616) (hb : b ≤ 9223372036854775808) : Nat.gcd a b < 18446744073709551616 := by
  rcases Nat.eq_zero_or_pos a with e | e
  · subst e; rw [Nat.gcd_zero_left]; omega
  · have := Nat.gcd_le_left b e; omega
theorem rd_at (l : List Int) (i : Nat) (h : i < l.length) : rd l (i:Int) = l[i] := by
  simp [rd, h]
theorem Gcd_l0 (l : List Int) (hl : l.length ≤ 9223372036854775806) (hx : I64 l) : ∀ (d i : Nat) (g : Nat), l.length - i = d → i ≤ l.length → g < 18446744073709551616 →
    ∃ K, ∀ k, K ≤ k → num_Gcd.l0 k g l (l.length:Int) i = some (fit (gcdL (l.drop i) g)) := by
  intro d
  induction d with
  | zero =>
    intro i g h1 h2 hg
    refine ⟨1, fun k hk => ?_⟩
    obtain ⟨m, rfl⟩ : ∃ m, k = m + 1 := ⟨k - 1, by omega⟩
    simp only [num_Gcd.l0]
    rw [if_neg (by omega), signed_ev g hg]
    rw [List.drop_eq_nil_of_le (by omega)]; rfl
  | succ d ih =>
    intro i g h1 h2 hg
    have hi : i < l.length := by omega
    have hxi := hx l[i] (List.getElem_mem hi)
    obtain ⟨K, ev⟩ := common_ev g l[i].natAbs hg (by omega)
    obtain ⟨K', ev'⟩ := ih (i+1) (Nat.gcd g l[i].natAbs) (by omega) (by omega) (gcd_lt hg (by omega))
    refine ⟨max K K' + 1, fun k hk => ?_⟩
    obtain ⟨m, rfl⟩ : ∃ m, k = m + 1 := ⟨k - 1, by omega⟩
    simp only [num_Gcd.l0]
    rw [if_pos (by omega), if_pos (by omega), if_pos (by omega), rd_at l i hi, size_eq hxi.1 hxi.2]
    simp only [Option.bind_some]
    rw [ev m (by omega)]
    simp only [Option.bind_some]
    rw [w64 (by omega) (by omega), List.drop_eq_getElem_cons hi]
    exact ev' m (by omega)
theorem Gcd_ev (l : List Int) (hl : l.length ≤ 9223372036854775806) (hx : I64 l) : ∃ K, ∀ k, K ≤ k → num_Gcd.f k l = some (fit (gcdL l 0)) := by
  have := Gcd_l0 l hl hx _ 0 0 rfl (by omega) (by omega)
  simp at this
  exact this

theorem gcdL_dvd (l : List Int) : ∀ g : Nat, gcdL l g ∣ g ∧ ∀ x ∈ l, gcdL l g ∣ x.natAbs := by
  induction l with
  | nil => intro g; exact ⟨Nat.dvd_refl _, by simp⟩
  | cons a l ih =>
    intro g
    obtain ⟨h1, h2⟩ := ih (Nat.gcd g a.natAbs)
    refine ⟨Nat.dvd_trans h1 (Nat.gcd_dvd_left _ _), fun x hx => ?_⟩
    rcases List.mem_cons.1 hx with e | e
    · subst e; exact Nat.dvd_trans h1 (Nat.gcd_dvd_right _ _)
    · exact h2 x e
theorem dvd_gcdL (l : List Int) (d : Nat) : ∀ g : Nat, d ∣ g → (∀ x ∈ l, d ∣ x.natAbs) → d ∣ gcdL l g := by
  induction l with
  | nil => intro g h _; exact h
  | cons a l ih =>
    intro g h h2
    exact ih _ (Nat.dvd_gcd h (h2 a (by simp))) (fun x hx => h2 x (by simp [hx]))

theorem gcdL_lt (l : List Int) (hx : I64 l) : ∀ g, g < 18446744073709551616 → gcdL l g < 18446744073709551616 := by
  induction l with
  | nil => intro g h; exact h
  | cons a l ih =>
    intro g h
    have := hx a (by simp)
    exact ih (fun x hx' => hx x (by simp [hx'])) _ (gcd_lt h (by omega))

/-! ### Ev -/
/-- At all great fuels the same answer. -/
def Ev {α : Type} (f : Nat → Option α) (v : α) : Prop := ∃ K, ∀ k, K ≤ k → f k = some v
theorem Ev.now {α : Type} {f : Nat → Option α} {v : α} (h : ∀ k, f k = some v) : Ev f v := ⟨0, fun k _ => h k⟩
theorem Ev.succ {α : Type} {f : Nat → Option α} {v : α} (h : Ev (fun k => f (k + 1)) v) : Ev f v := by
  obtain ⟨K, h⟩ := h
  refine ⟨K + 1, fun k hk => ?_⟩
  obtain ⟨m, rfl⟩ : ∃ m, k = m + 1 := ⟨k - 1, by omega⟩
  exact h m (by omega)
theorem Ev.bind {α β : Type} {f : Nat → Option α} {g : Nat → α → Option β} {v : α} {u : β} (h : Ev f v) (h2 : Ev (fun k => g k v) u) : Ev (fun k => (f k).bind (g k)) u := by
  obtain ⟨K, h⟩ := h
  obtain ⟨K2, h2⟩ := h2
  refine ⟨max K K2, fun k hk => ?_⟩
  show (f k).bind (g k) = some u
  rw [h k (by omega)]
  exact h2 k (by omega)
theorem Ev.of {α : Type} {f g : Nat → Option α} {v : α} (h : Ev f v) (e : ∀ k, g k = f k) : Ev g v := by
  obtain ⟨K, h⟩ := h
  exact ⟨K, fun k hk => (e k).trans (h k hk)⟩
theorem Ev.at_ {α : Type} {f : Nat → Option α} {v : α} (h : Ev f v) : ∃ k, f k = some v := by
  obtain ⟨K, h⟩ := h
  exact ⟨K, h K (Nat.le_refl _)⟩
theorem Ev.mono {α : Type} {f : Nat → Option α} {v : α} (K : Nat) (hm : ∀ k, LeO (f k) (f (k + 1))) (h : f K = some v) : Ev f v := by
  refine ⟨K, fun k hk => ?_⟩
  obtain ⟨d, rfl⟩ := Nat.exists_eq_add_of_le hk
  induction d with
  | zero => exact h
  | succ d ih => exact hm (K + d) v (ih (by omega))
theorem Ev.val {α : Type} {f : Nat → Option α} {v u : α} (h : Ev f v) (e : v = u) : Ev f u := e ▸ h
theorem Ev.pos {α : Type} {c : Prop} [Decidable c] {f g : Nat → Option α} {v : α} (h : c) (hf : Ev f v) : Ev (fun k => if c then f k else g k) v := hf.of fun k => if_pos h
theorem Ev.neg {α : Type} {c : Prop} [Decidable c] {f g : Nat → Option α} {v : α} (h : ¬ c) (hf : Ev g v) : Ev (fun k => if c then f k else g k) v := hf.of fun k => if_neg h

/-! ### Lin28 -/
theorem rdM_at (l : List S47) (i : Nat) (h : i < l.length) : rd_T47 l (i:Int) = l[i] := by simp [rd_T47, h]
theorem rdQ_at (l : List S28) (i : Nat) (h : i < l.length) : rd_T28 l (i:Int) = l[i] := by simp [rd_T28, h]
theorem rdI_at (l : List S30) (i : Nat) (h : i < l.length) : rd_T30 l (i:Int) = l[i] := by simp [rd_T30, h]

/-- Are the variables in order, of the 64, and no factor zero? -/
def rightL : Int → List S47 → Bool
  | _, [] => true
  | last, m :: l => decide (last < m.f0) && decide (m.f0 < 64) && decide (m.f1 ≠ 0) && rightL m.f0 l
theorem Right_l0 (l : List S47) (hl : l.length ≤ 9223372036854775807) : ∀ (d i : Nat) (last : Int), l.length - i = d → i ≤ l.length →
    Ev (fun k => lin_Right.l0 k last l (l.length:Int) i) (if rightL last (l.drop i) = true then 0 else 1) := by
  intro d
  induction d with
  | zero =>
    intro i last h1 h2
    refine Ev.succ (Ev.now fun k => ?_)
    simp only [lin_Right.l0]
    rw [if_neg (by omega), List.drop_eq_nil_of_le (by omega)]; rfl
  | succ d ih =>
    intro i last h1 h2
    have hi : i < l.length := by omega
    rw [List.drop_eq_getElem_cons hi]
    by_cases e : last < l[i].f0 ∧ l[i].f0 < 64 ∧ l[i].f1 ≠ 0
    · obtain ⟨e1, e2, e3⟩ := e
      refine Ev.succ (Ev.of (ih (i+1) l[i].f0 (by omega) (by omega)) fun k => ?_) |>.val ?_
      · simp only [lin_Right.l0]
        rw [if_pos (by omega), if_pos (by omega), if_pos (by omega), rdM_at l i hi, if_neg (by omega), if_neg (by omega), if_neg e3, w64 (by omega) (by omega)]; rfl
      · simp only [rightL, decide_eq_true e1, decide_eq_true e2, decide_eq_true e3, Bool.true_and]
    · refine Ev.succ (Ev.now fun k => ?_)
      have hr : rightL last (l[i] :: l.drop (i+1)) = false := by
        simp only [rightL, Bool.and_eq_false_iff, decide_eq_false_iff_not]
        omega
      rw [hr]
      simp only [lin_Right.l0]
      rw [if_pos (by omega), if_pos (by omega), if_pos (by omega), rdM_at l i hi]
      by_cases e1 : l[i].f0 ≤ last
      · rw [if_pos e1]; rfl
      by_cases e2 : l[i].f0 ≥ 64
      · rw [if_neg e1, if_pos e2]; rfl
      · rw [if_neg e1, if_neg e2, if_pos (by omega)]; rfl
theorem Right_ev (K : Int) (l : List S47) (hl : l.length ≤ 9223372036854775807) : Ev (fun k => lin_Right.f k K l) (if rightL (-1) l = true then 0 else 1) := by
  have := Right_l0 l hl _ 0 (-1) rfl (by omega)
  exact this
theorem iRight_ev (K : Int) (l : List S47) (b : Bool) (hl : l.length ≤ 9223372036854775807) : Ev (fun k => ineq_Right.f k K l b) (if rightL (-1) l = true then 0 else 1) :=
  Ev.bind (Right_ev K l hl) (Ev.now fun _ => rfl)
theorem right1_ev (K : Int) (l : List S47) (hl : l.length ≤ 9223372036854775807) : Ev (fun k => lin_right_1.f k K l) (!rightL (-1) l) :=
  Ev.bind (Right_ev K l hl) (Ev.now fun _ => by cases rightL (-1) l <;> rfl)

theorem idx_l0 (l : List S28) (hl : l.length ≤ 9223372036854775807) (hm : ∀ q ∈ l, q.f1.length ≤ 9223372036854775807) : ∀ (d i : Nat), l.length - i = d → i ≤ l.length →
    ∃ v, Ev (fun k => api_Lin_78.l0 k l (l.length:Int) i) v ∧ decide (v ≥ 0) = !((l.drop i).all fun q => rightL (-1) q.f1) := by
  intro d
  induction d with
  | zero =>
    intro i h1 h2
    refine ⟨-1, Ev.succ (Ev.now fun k => ?_), ?_⟩
    · simp only [api_Lin_78.l0]
      rw [if_neg (by omega)]
    · rw [List.drop_eq_nil_of_le (by omega)]; rfl
  | succ d ih =>
    intro i h1 h2
    have hi : i < l.length := by omega
    rw [List.drop_eq_getElem_cons hi]
    have hq := right1_ev l[i].f0 l[i].f1 (hm _ (List.getElem_mem hi))
    obtain ⟨v, ev, hv⟩ := ih (i+1) (by omega) (by omega)
    have hs : ∀ k, api_Lin_78.l0 (k+1) l (l.length:Int) i = (lin_right_1.f k l[i].f0 l[i].f1).bind fun t => if t = true then some (i:Int) else api_Lin_78.l0 k l (l.length:Int) ((i+1 : Nat) : Int) := by
      intro k
      simp only [api_Lin_78.l0]
      rw [if_pos (by omega), if_pos (by omega), if_pos (by omega), rdQ_at l i hi, w64 (by omega) (by omega)]; rfl
    by_cases e : rightL (-1) l[i].f1 = true
    · rw [e] at hq
      refine ⟨v, Ev.succ (Ev.of (Ev.bind hq ?_) hs), ?_⟩
      · exact Ev.of ev fun k => by simp
      · rw [hv, List.all_cons, e, Bool.true_and]
    · have e' : rightL (-1) l[i].f1 = false := by simpa using e
      rw [e'] at hq
      refine ⟨i, Ev.succ (Ev.of (Ev.bind hq ?_) hs), ?_⟩
      · exact Ev.now fun k => by simp
      · rw [List.all_cons, e']; simp
theorem linright_ev (l : List S28) (hl : l.length ≤ 9223372036854775807) (hm : ∀ q ∈ l, q.f1.length ≤ 9223372036854775807) : Ev (fun k => lin_right.f k l) (l.all fun q => rightL (-1) q.f1) := by
  obtain ⟨v, ev, hv⟩ := idx_l0 l hl hm _ 0 rfl (by omega)
  rw [List.drop_zero] at hv
  refine Ev.bind (v := decide (v ≥ 0)) (Ev.bind ev (Ev.now fun _ => rfl)) (Ev.now fun _ => ?_)
  rw [hv]; simp

theorem rightL_mem : ∀ (l : List S47) (last : Int), rightL last l = true → ∀ m ∈ l, last < m.f0 ∧ m.f0 < 64 ∧ m.f1 ≠ 0 := by
  intro l
  induction l with
  | nil => intro last _ m hm; cases hm
  | cons a l ih =>
    intro last h m hm
    simp only [rightL, Bool.and_eq_true, decide_eq_true_eq] at h
    rcases List.mem_cons.1 hm with e | e
    · subst e; exact ⟨h.1.1.1, h.1.1.2, h.1.2⟩
    · have := ih a.f0 h.2 m e; omega
theorem rightL_len : ∀ (l : List S47) (last : Int), last ≤ 63 → rightL last l = true → (l.length : Int) ≤ 63 - last := by
  intro l
  induction l with
  | nil => intro last h _; simp; omega
  | cons a l ih =>
    intro last h0 h
    simp only [rightL, Bool.and_eq_true, decide_eq_true_eq] at h
    have := ih a.f0 (by omega) h.2
    simp only [List.length_cons]; omega
/-- The monomials' ranges. -/
def M64 (l : List S47) : Prop := ∀ m ∈ l, (-9223372036854775808 ≤ m.f0 ∧ m.f0 ≤ 9223372036854775807) ∧ -9223372036854775808 ≤ m.f1 ∧ m.f1 ≤ 9223372036854775807
def R64 (n : Int) : Prop := -9223372036854775808 ≤ n ∧ n ≤ 9223372036854775807

theorem in64_of {n : Int} (h : R64 n) : in64 n = true := by
  simp only [in64, Bool.and_eq_true, decide_eq_true_eq]; exact h
theorem rd_R64 {x : List Int} (hx : I64 x) (i : Int) : R64 (rd x i) := by
  unfold rd
  by_cases h : i.toNat < x.length
  · rw [List.getD_eq_getElem?_getD, List.getElem?_eq_getElem h]; exact hx _ (List.getElem_mem h)
  · rw [List.getD_eq_getElem?_getD, List.getElem?_eq_none (by omega)]; exact ⟨by simp, by simp⟩
theorem mul_R64 {a b : Int} (ha : R64 a) (hb : R64 b) : -85070591730234615865843651857942052864 ≤ a * b ∧ a * b ≤ 85070591730234615865843651857942052864 := by
  have h := abs_mul_lt ha.1 ha.2 hb.1 hb.2
  rw [← Int.natAbs_mul] at h
  omega
theorem wrap192_id {s : Int} (h1 : -3138550867693340381917894711603833208051177722232017256448 ≤ s) (h2 : s < 3138550867693340381917894711603833208051177722232017256448) : wrap192 s = s := by
  unfold wrap192; omega
theorem Mono_eq (l : List S47) (h : l.length < 8796093022208) : api_Mono_37.f l = some l := by
  unfold api_Mono_37.f; rw [if_pos h]
/-- The constant divided, rounded up, and a monomial divided. -/
def ceilD (K d : Int) : Int := -((-K) / d)
def divM (d : Int) (m : S47) : S47 := ⟨m.f0, Int.tdiv m.f1 d⟩
theorem tdiv_R64 {a d : Int} (ha : R64 a) (hd : 1 ≤ d) : R64 (Int.tdiv a d) ∧ (0 < d → (0 ≤ a → Int.tdiv a d = a / d) ∧ (a < 0 → Int.tdiv a d = -((-a) / d))) := by
  have h : 0 < d → (0 ≤ a → Int.tdiv a d = a / d) ∧ (a < 0 → Int.tdiv a d = -((-a) / d)) := by
    intro _
    constructor
    · intro h0; exact Int.tdiv_eq_ediv_of_nonneg h0
    · intro h0
      have h1 : Int.tdiv (-a) d = (-a) / d := Int.tdiv_eq_ediv_of_nonneg (by omega)
      rw [Int.neg_tdiv] at h1; omega
  refine ⟨?_, h⟩
  obtain ⟨h1, h2⟩ := h (by omega)
  have hA := ha.1
  have hB := ha.2
  by_cases e : 0 ≤ a
  · rw [h1 e]
    have p1 : 0 ≤ a / d := Int.ediv_nonneg e (by omega)
    have p2 : a / d ≤ a := Int.ediv_le_self d e
    exact ⟨by omega, by omega⟩
  · rw [h2 (by omega)]
    have p1 : 0 ≤ (-a) / d := Int.ediv_nonneg (by omega) (by omega)
    have p2 : (-a) / d ≤ -a := Int.ediv_le_self d (by omega)
    exact ⟨by omega, by omega⟩
theorem ceil_law {K d : Int} (hd : 1 ≤ d) : d * (ceilD K d - 1) < K ∧ K ≤ d * ceilD K d := by
  unfold ceilD
  have h1 := Int.ediv_mul_le (-K) (show d ≠ 0 by omega)
  have h2 := Int.lt_ediv_add_one_mul_self (-K) (show 0 < d by omega)
  rw [Int.mul_comm] at h1 h2
  generalize (-K) / d = q at *
  rw [Int.mul_add] at h2
  rw [Int.mul_sub, Int.mul_neg]
  omega
theorem ceilD_uniq {K d c : Int} (hd : 1 ≤ d) (h1 : d * (c - 1) < K) (h2 : K ≤ d * c) : c = ceilD K d := by
  obtain ⟨p1, p2⟩ := ceil_law (K := K) hd
  have a1 : d * (c - 1) < d * ceilD K d := by omega
  have a2 : d * (ceilD K d - 1) < d * c := by omega
  have b1 := Int.lt_of_mul_lt_mul_left a1 (by omega)
  have b2 := Int.lt_of_mul_lt_mul_left a2 (by omega)
  omega
theorem Ceil_eq {K d : Int} (hK : R64 K) (hd : 1 ≤ d) (hd2 : d ≤ 9223372036854775807) : num_Ceil.f K d = some (ceilD K d, true) := by
  have hov : num_over.f K d = some false := by
    unfold num_over.f
    rw [if_neg (by omega)]
    split
    · rw [show (d == -1) = false from beq_eq_false_iff_ne.2 (by omega)]
    · rfl
  unfold num_Ceil.f
  rw [hov]
  simp only [Option.bind_some]
  rw [if_neg (by simp), if_neg (by omega)]
  have hT := (tdiv_R64 hK hd).1
  have he : K = d * Int.tdiv K d + Int.tmod K d := by rw [Int.add_comm]; exact (Int.tmod_add_mul_tdiv K d).symm
  have hW : wrap64 (Int.tdiv K d) = Int.tdiv K d := w64 hT.1 hT.2
  rw [hW]
  by_cases e : Int.tmod K d = 0
  · rw [if_pos e]
    congr 2
    refine ceilD_uniq hd ?_ ?_ <;> (try rw [Int.mul_sub]) <;> omega
  · rw [if_neg e]
    by_cases n : K < 0
    · have hm : Int.tmod K d ≤ 0 := by
        have := Int.tmod_nonneg (a := -K) d (by omega)
        rw [Int.neg_tmod] at this; omega
      have hm2 : -d < Int.tmod K d := by
        have := Int.tmod_lt_of_pos (-K) (show 0 < d by omega)
        rw [Int.neg_tmod] at this; omega
      rw [decide_eq_true n, decide_eq_false (by omega), if_neg (by decide)]
      congr 2
      refine ceilD_uniq hd ?_ ?_ <;> (try rw [Int.mul_sub]) <;> omega
    · have hm : 0 ≤ Int.tmod K d := Int.tmod_nonneg d (by omega)
      have hm2 : Int.tmod K d < d := Int.tmod_lt_of_pos K (by omega)
      rw [decide_eq_false n, decide_eq_false (show ¬ d < 0 by omega), if_pos (by decide)]
      have hd1 : d ≠ 1 := by intro h; subst h; simp at e
      have hq : Int.tdiv K d ≤ K / 2 := by
        rw [(tdiv_R64 hK hd).2 (by omega) |>.1 (by omega)]
        have : 2 * (K / d) ≤ d * (K / d) := Int.mul_le_mul_of_nonneg_right (by omega) (Int.ediv_nonneg (by omega) (by omega))
        have := Int.mul_ediv_self_le (x := K) (k := d) (by omega)
        omega
      have hK1 := hK.2
      have hT1 := hT.1
      rw [w64 (by omega) (by omega)]
      congr 2
      refine ceilD_uniq hd ?_ ?_ <;> (try rw [Int.mul_sub]) <;> (try rw [Int.mul_add]) <;> omega

theorem divided_l0 (d c : Int) (hd : 1 ≤ d) (l : List S47) (hl : M64 l) (hlen : l.length ≤ 9223372036854775807) : ∀ (n i : Nat) (y : List S47), l.length - i = n → i ≤ l.length → y = (l.take i).map (divM d) ++ l.drop i →
    Ev (fun k => ineq_divided.l0 k d (l.length:Int) i c y) (c, l.map (divM d)) := by
  intro n
  induction n with
  | zero =>
    intro i y h1 h2 hy
    refine Ev.succ (Ev.now fun k => ?_)
    simp only [ineq_divided.l0]
    rw [if_neg (by omega), hy, List.drop_eq_nil_of_le (by omega), List.take_of_length_le (by omega), List.append_nil]
  | succ n ih =>
    intro i y h1 h2 hy
    have hi : i < l.length := by omega
    have hyl : y.length = l.length := by rw [hy]; simp; omega
    have hyi : y[i]'(by omega) = l[i] := by
      subst hy
      rw [List.getElem_append_right (by simp; omega)]
      simp [Nat.min_eq_left (Nat.le_of_lt hi)]
    refine Ev.succ (Ev.of (ih (i+1) (y.set i (divM d l[i])) (by omega) (by omega) ?_) fun k => ?_)
    · rw [hy, List.set_append_right _ _ (by simp; omega)]
      simp only [List.length_map, List.length_take, Nat.min_eq_left (Nat.le_of_lt hi), Nat.sub_self]
      rw [List.drop_eq_getElem_cons hi, List.set_cons_zero, List.take_succ_eq_append_getElem hi, List.map_append, List.append_assoc]
      rfl
    · have hT := (tdiv_R64 (hl _ (List.getElem_mem hi)).2 hd).1
      simp only [ineq_divided.l0]
      rw [if_pos (by omega), if_pos (by omega), if_pos (by omega), if_neg (by omega), rdM_at y i (by omega), hyi, w64 hT.1 hT.2, w64 (by omega) (by omega)]; rfl
theorem divided_ev {K d : Int} (hK : R64 K) (hd : 1 ≤ d) (hd2 : d ≤ 9223372036854775807) (l : List S47) (hl : M64 l) (hlen : l.length < 8796093022208) :
    Ev (fun k => ineq_divided.f k K l d) (ceilD K d, l.map (divM d)) := by
  refine Ev.of (divided_l0 d (ceilD K d) hd l hl (by omega) _ 0 l rfl (by omega) (by simp)) fun k => ?_
  unfold ineq_divided.f
  rw [Mono_eq l hlen, Ceil_eq hK hd hd2]; rfl

theorem short_l0 (most : Int) (l : List S30) (hl : l.length ≤ 9223372036854775807) : ∀ (d i : Nat), l.length - i = d → i ≤ l.length →
    Ev (fun k => sequiturlaw28_Short.l0 k most l i) ((l.drop i).all (fun q => decide (q.f0.f1.length ≤ 100)) && decide ((l.length : Int) ≤ most)) := by
  intro d
  induction d with
  | zero =>
    intro i h1 h2
    refine Ev.succ (Ev.now fun k => ?_)
    simp only [sequiturlaw28_Short.l0]
    rw [if_neg (by omega), List.drop_eq_nil_of_le (by omega)]; rfl
  | succ d ih =>
    intro i h1 h2
    have hi : i < l.length := by omega
    rw [List.drop_eq_getElem_cons hi]
    by_cases e : l[i].f0.f1.length ≤ 100
    · refine (Ev.succ (Ev.of (ih (i+1) (by omega) (by omega)) fun k => ?_)).val ?_
      · simp only [sequiturlaw28_Short.l0]
        rw [if_pos (by omega), if_pos (by omega), rdI_at l i hi, if_neg (by omega), w64 (by omega) (by omega)]; rfl
      · rw [List.all_cons, decide_eq_true e, Bool.true_and]
    · refine Ev.succ (Ev.now fun k => ?_)
      simp only [sequiturlaw28_Short.l0]
      rw [if_pos (by omega), if_pos (by omega), rdI_at l i hi, if_pos (by omega), List.all_cons, decide_eq_false e]; rfl
theorem Short_ev (most : Int) (l : List S30) (hl : l.length ≤ 9223372036854775807) :
    Ev (fun k => sequiturlaw28_Short.f k most l) (l.all (fun q => decide (q.f0.f1.length ≤ 100)) && decide ((l.length : Int) ≤ most)) := by
  have := short_l0 most l hl _ 0 rfl (by omega)
  exact this
theorem goes28_ev : Ev (fun k => sequiturlaw28_goes.f k) true := Ev.mono 200 sequiturlaw28_goes.mono (by decide +kernel)

/-! ### Tight28 -/
/-- The common divisor of the factors, if it fits, else none. -/
def gL (l : List S47) : Int := (fit (gcdL (l.map (·.f1)) 0)).1
theorem gcdF_l0 (l : List S47) (hl : M64 l) (hlen : l.length ≤ 1000000) : ∀ (d i : Nat) (acc : List Int), l.length - i = d → i ≤ l.length → acc = (l.take i).map (·.f1) →
    Ev (fun k => lin_Gcd.l0 k acc l (l.length:Int) i) (fit (gcdL (l.map (·.f1)) 0)).1 := by
  intro d
  induction d with
  | zero =>
    intro i acc h1 h2 hacc
    rw [List.take_of_length_le (by omega)] at hacc
    subst hacc
    have hI : I64 (l.map (·.f1)) := by
      intro x hx
      obtain ⟨m, hm, rfl⟩ := List.mem_map.1 hx
      exact (hl m hm).2
    have hg : Ev (fun k => num_Gcd.f k (l.map (·.f1))) (fit (gcdL (l.map (·.f1)) 0)) := Gcd_ev _ (by simp; omega) hI
    refine Ev.succ (Ev.of (Ev.bind (g := fun _ t => some t.1) hg (Ev.now fun _ => rfl)) fun k => ?_)
    simp only [lin_Gcd.l0]
    rw [if_neg (by omega)]
  | succ d ih =>
    intro i acc h1 h2 hacc
    have hi : i < l.length := by omega
    refine Ev.succ (Ev.of (ih (i+1) (acc ++ [l[i].f1]) (by omega) (by omega) ?_) fun k => ?_)
    · rw [hacc, List.take_succ_eq_append_getElem hi, List.map_append]; rfl
    · have hal : acc.length ≤ 1000000 := by rw [hacc]; simp; omega
      simp only [lin_Gcd.l0]
      rw [if_pos (by omega), if_pos (by omega), if_pos (by omega), if_pos (by omega), rdM_at l i hi, w64 (by omega) (by omega)]; rfl
theorem gcdF_ev (K : Int) (l : List S47) (hl : M64 l) (hlen : l.length ≤ 1000000) : Ev (fun k => lin_Gcd.f k K l) (gL l) :=
  gcdF_l0 l hl hlen _ 0 [] rfl (by omega) (by simp)
theorem gL_range (l : List S47) : 0 ≤ gL l ∧ gL l ≤ 9223372036854775807 := by
  unfold gL fit; split <;> simp <;> omega
theorem gL_dvd (l : List S47) (h : 2 ≤ gL l) : ∀ m ∈ l, gL l ∣ m.f1 := by
  intro m hm
  have h1 := (gcdL_dvd (l.map (·.f1)) 0).2 m.f1 (List.mem_map.2 ⟨m, hm, rfl⟩)
  have h2 : gL l = ((gcdL (l.map (·.f1)) 0 : Nat) : Int) := by
    unfold gL fit at *
    split
    · rfl
    · rename_i e; rw [if_neg e] at h; simp at h
  rw [h2]
  exact Int.ofNat_dvd_left.2 h1
/-- What is tight. -/
def tightD (K : Int) (l : List S47) (b : Bool) : Int × List S47 × Bool × Int :=
  if rightL (-1) l = true then
    (if gL l < 2 then (K, l, b, 0)
     else if b = true ∧ ¬ Int.tmod K (gL l) = 0 then (1, [], true, 0)
     else (ceilD K (gL l), l.map (divM (gL l)), b, 0))
  else (0, [], false, 1)
theorem Tight_ev {K : Int} (hK : R64 K) (l : List S47) (b : Bool) (hl : M64 l) (hlen : l.length ≤ 1000000) :
    Ev (fun k => ineq_Tight.f k K l b) (tightD K l b) := by
  refine Ev.bind (iRight_ev K l b (by omega)) ?_
  unfold tightD
  by_cases e : rightL (-1) l = true
  · rw [if_pos e, if_pos e]
    simp only [if_true]
    refine Ev.bind (gcdF_ev K l hl hlen) ?_
    have hg := gL_range l
    by_cases e2 : gL l < 2
    · rw [if_pos e2]
      refine Ev.pos e2 (Ev.now fun k => ?_)
      rw [Mono_eq l (by omega)]; rfl
    · rw [if_neg e2]
      have hD := divided_ev hK (show 1 ≤ gL l by omega) hg.2 l hl (by omega)
      by_cases e3 : b = true
      · subst e3
        by_cases e4 : Int.tmod K (gL l) = 0
        · rw [if_neg (by simp [e4])]
          exact Ev.neg e2 (Ev.pos rfl (Ev.neg (by omega) (Ev.pos e4 (Ev.bind hD (Ev.now fun _ => rfl)))))
        · rw [if_pos ⟨rfl, e4⟩]
          exact Ev.neg e2 (Ev.pos rfl (Ev.neg (by omega) (Ev.neg e4 (Ev.now fun _ => rfl))))
      · rw [if_neg (by simp [e3])]
        exact Ev.neg e2 (Ev.neg e3 (Ev.bind hD (Ev.now fun _ => rfl)))
  · rw [if_neg e, if_neg e]
    exact Ev.now fun k => by rw [if_neg (by decide)]

instance instR64 (n : Int) : Decidable (R64 n) := inferInstanceAs (Decidable (_ ∧ _))
theorem tdiv_mul_dvd {a d : Int} (hd : d ∣ a) : d * Int.tdiv a d = a := Int.mul_tdiv_cancel' hd
theorem rightL_div (d : Int) : ∀ (l : List S47) (last : Int), (∀ m ∈ l, d ∣ m.f1) → rightL last l = true → rightL last (l.map (divM d)) = true := by
  intro l
  induction l with
  | nil => intro _ _ _; rfl
  | cons a l ih =>
    intro last h hr
    simp only [rightL, Bool.and_eq_true, decide_eq_true_eq, List.map_cons] at hr ⊢
    refine ⟨⟨⟨hr.1.1.1, hr.1.1.2⟩, ?_⟩, ih a.f0 (fun m hm => h m (List.mem_cons_of_mem _ hm)) hr.2⟩
    have h1 := tdiv_mul_dvd (h a (List.mem_cons_self ..))
    intro e
    simp only [divM] at e
    rw [e] at h1
    have := hr.1.2
    simp at h1
    omega
theorem M64_div (d : Int) (hd : 1 ≤ d) (l : List S47) (h : M64 l) : M64 (l.map (divM d)) := by
  intro m hm
  obtain ⟨a, ha, rfl⟩ := List.mem_map.1 hm
  exact ⟨(h a ha).1, (tdiv_R64 (h a ha).2 hd).1⟩
theorem ceilD_R64 {K d : Int} (hK : R64 K) (hd : 1 ≤ d) : R64 (ceilD K d) := by
  have h := ceil_law (K := K) hd
  have h1 := hK.1
  have h2 := hK.2
  constructor
  · rcases Int.lt_or_le (ceilD K d) 0 with n | n
    · have : d * ceilD K d ≤ 1 * ceilD K d := Int.mul_le_mul_of_nonpos_right hd (by omega)
      omega
    · omega
  · rcases Int.lt_or_le 1 (ceilD K d) with n | n
    · have : 1 * (ceilD K d - 1) ≤ d * (ceilD K d - 1) := Int.mul_le_mul_of_nonneg_right hd (by omega)
      omega
    · omega

/-! ### Far -/
theorem Far_eq {a : Int} (h1 : -9223372036854775808 ≤ a) (h2 : a ≤ 9223372036854775807) : sequiturref01_Far.f a = some (a.natAbs : Int) := by
  unfold sequiturref01_Far.f
  simp only [u64w]
  split <;> congr 1 <;> omega
theorem tmod_nat (a b : Nat) : Int.tmod (a:Int) (b:Int) = ((a % b : Nat) : Int) := (Int.ofNat_tmod a b).symm
theorem mod64 (n : Nat) (h : n < 18446744073709551616) : (n:Int) % 18446744073709551616 = n := by omega
theorem tdiv_nat (a b : Nat) : Int.tdiv (a:Int) (b:Int) = ((a / b : Nat) : Int) := (Int.ofNat_tdiv a b).symm


/-! ### Wide -/
/-- The two halves of a number, up to a multiple of 2^128. -/
def hiW (v : Int) : Int := wrap64 (v / 18446744073709551616)
def loW (v : Int) : Int := v % 18446744073709551616
theorem xor_all (x : Int) (h1 : 0 ≤ x) (h2 : x < 18446744073709551616) : Go.bits .xor .u64 18446744073709551615 x = 18446744073709551615 - x := by
  obtain ⟨n, rfl⟩ := Int.eq_ofNat_of_zero_le h1
  refine Eq.trans (u64_xor_nat 18446744073709551615 n (by decide) (by omega)) ?_
  have h : (BitVec.allOnes 64 ^^^ BitVec.ofNat 64 n).toNat = 18446744073709551615 ^^^ n := by
    rw [BitVec.toNat_xor, BitVec.toNat_allOnes, BitVec.toNat_ofNat, Nat.mod_eq_of_lt (by omega)]
  rw [BitVec.allOnes_xor, BitVec.toNat_not, BitVec.toNat_ofNat, Nat.mod_eq_of_lt (by omega)] at h
  omega
theorem Of_eq {a : Int} (h1 : -9223372036854775808 ≤ a) (h2 : a ≤ 9223372036854775807) : sequiturref01_Of.f a = some (hiW a, loW a) := by
  unfold sequiturref01_Of.f hiW loW wrap64
  simp only [u64w]
  split <;> congr 2 <;> omega
theorem Plus_eq (v w : Int) : sequiturref01_Plus.f (hiW v) (loW v) (hiW w) (loW w) = some (hiW (v + w), loW (v + w)) := by
  unfold sequiturref01_Plus.f hiW loW wrap64
  simp only [u64w]
  split <;> congr 2 <;> omega
theorem hiW0 : hiW 0 = 0 := by unfold hiW wrap64; omega
theorem loW0 : loW 0 = 0 := by decide
theorem hiW1 : hiW 1 = 0 := by unfold hiW wrap64; omega
theorem loW1 : loW 1 = 1 := by decide
theorem Minus_eq (v : Int) : sequiturref01_Minus.f (hiW v) (loW v) = some (hiW (-v), loW (-v)) := by
  unfold sequiturref01_Minus.f
  rw [xor_all _ (by unfold loW; omega) (by unfold loW; omega)]
  rw [show wrap64 (-1 - hiW v) = hiW (-1 - v) by unfold hiW wrap64; omega, show 18446744073709551615 - loW v = loW (-1 - v) by unfold loW; omega]
  have := Plus_eq (-1 - v) 1
  rw [hiW1, loW1] at this
  rw [this, show -1 - v + 1 = -v by omega]; rfl
theorem Fits_eq (v : Int) (h1 : -170141183460469231731687303715884105728 ≤ v) (h2 : v < 170141183460469231731687303715884105728) : sequiturref01_Fits.f (hiW v) (loW v) = some (fitI v) := by
  have e : wrap64 (loW v) = if loW v < 9223372036854775808 then loW v else loW v - 18446744073709551616 := by
    have : 0 ≤ loW v ∧ loW v < 18446744073709551616 := by unfold loW; omega
    unfold wrap64; split <;> omega
  have hh : hiW v = v / 18446744073709551616 := by unfold hiW; exact w64 (by omega) (by omega)
  unfold sequiturref01_Fits.f fitI
  rw [e, hh]
  unfold loW
  repeat' split
  all_goals first | omega | (congr 2; omega) | rfl


/-! ### Times -/
theorem Times_l0 : ∀ (u : Nat) (x o : Int), u < 18446744073709551616 → ∃ K, ∀ k, K ≤ k → sequiturref01_Times.l0 k u (hiW x) (loW x) (hiW o) (loW o) = some (hiW (o + u * x), loW (o + u * x)) := by
  intro u
  induction u using Nat.strongRecOn with
  | _ u ih =>
    intro x o hu
    by_cases h : u = 0
    · subst h
      refine ⟨1, fun k hk => ?_⟩
      obtain ⟨m, rfl⟩ : ∃ m, k = m + 1 := ⟨k - 1, by omega⟩
      simp only [sequiturref01_Times.l0]
      rw [if_neg (by omega)]; simp
    · have ht : Int.tdiv (u:Int) 2 = ((u / 2 : Nat) : Int) := (Int.ofNat_tdiv u 2).symm
      have hm : Int.tmod (u:Int) 2 = ((u % 2 : Nat) : Int) := (Int.ofNat_tmod u 2).symm
      have hw : IntKind.u64.wrap (Int.tdiv (u:Int) 2) = ((u / 2 : Nat) : Int) := by rw [ht, u64w]; omega
      have hx : ((u / 2 : Nat) : Int) * (x + x) = ((u - u % 2 : Nat) : Int) * x := by
        rw [← Int.two_mul, ← Int.mul_assoc]; congr 1; omega
      by_cases e : u % 2 = 1
      · obtain ⟨K, ev⟩ := ih (u / 2) (by omega) (x + x) (o + x) (by omega)
        refine ⟨K + 1, fun k hk => ?_⟩
        obtain ⟨m, rfl⟩ : ∃ m, k = m + 1 := ⟨k - 1, by omega⟩
        simp only [sequiturref01_Times.l0]
        rw [if_pos (by omega), hm, e, if_pos (by rfl), Plus_eq, Plus_eq]
        simp only [Option.bind_some]
        rw [hw, ev m (by omega), hx, e]
        have : o + x + ((u - 1 : Nat) : Int) * x = o + u * x := by
          have : (u : Int) = ((u - 1 : Nat) : Int) + 1 := by omega
          rw [this, Int.add_mul]; omega
        rw [this]
      · obtain ⟨K, ev⟩ := ih (u / 2) (by omega) (x + x) o (by omega)
        refine ⟨K + 1, fun k hk => ?_⟩
        obtain ⟨m, rfl⟩ : ∃ m, k = m + 1 := ⟨k - 1, by omega⟩
        simp only [sequiturref01_Times.l0]
        rw [if_pos (by omega), hm, if_neg (by omega), Plus_eq]
        simp only [Option.bind_some]
        rw [hw, ev m (by omega), hx, show u % 2 = 0 by omega]; rfl

theorem Times_ev {a b : Int} (h1 : -9223372036854775808 ≤ a) (h2 : a ≤ 9223372036854775807) (h3 : -9223372036854775808 ≤ b) (h4 : b ≤ 9223372036854775807) :
    ∃ K, ∀ k, K ≤ k → sequiturref01_Times.f k a b = some (hiW (a * b), loW (a * b)) := by
  by_cases hb : b < 0
  · obtain ⟨K, ev⟩ := Times_l0 b.natAbs (-a) 0 (by omega)
    refine ⟨K + 1, fun k hk => ?_⟩
    obtain ⟨m, rfl⟩ : ∃ m, k = m + 1 := ⟨k - 1, by omega⟩
    unfold sequiturref01_Times.f
    rw [Of_eq h1 h2]
    simp only [Option.bind_some]
    rw [if_pos hb, Minus_eq]
    simp only [Option.bind_some, sequiturref01_Times.j0]
    rw [Far_eq h3 h4]
    simp only [Option.bind_some]
    have e : (0:Int) + (b.natAbs : Int) * -a = a * b := by
      rw [show (b.natAbs : Int) = -b by omega, Int.neg_mul_neg, Int.mul_comm]; omega
    rw [← e]
    have := ev m (by omega)
    rw [hiW0, loW0] at this
    exact this
  · obtain ⟨K, ev⟩ := Times_l0 b.natAbs a 0 (by omega)
    refine ⟨K + 1, fun k hk => ?_⟩
    obtain ⟨m, rfl⟩ : ∃ m, k = m + 1 := ⟨k - 1, by omega⟩
    unfold sequiturref01_Times.f
    rw [Of_eq h1 h2]
    simp only [Option.bind_some]
    rw [if_neg hb]
    simp only [sequiturref01_Times.j0]
    rw [Far_eq h3 h4]
    simp only [Option.bind_some]
    have e : (0:Int) + (b.natAbs : Int) * a = a * b := by
      rw [show (b.natAbs : Int) = b by omega, Int.mul_comm]; omega
    rw [← e]
    have := ev m (by omega)
    rw [hiW0, loW0] at this
    exact this
theorem mul_small {a b : Int} (h1 : -9223372036854775808 ≤ a) (h2 : a ≤ 9223372036854775807) (h3 : -9223372036854775808 ≤ b) (h4 : b ≤ 9223372036854775807) : -85070591730234615865843651857942052864 ≤ a * b ∧ a * b ≤ 85070591730234615865843651857942052864 := by
  have h := abs_mul_lt h1 h2 h3 h4
  rw [← Int.natAbs_mul] at h
  omega

/-! ### Sum28 -/
/-! Sums of the 64 variables' parts. -/
def sg : Nat → (Nat → Int) → Int
  | 0, _ => 0
  | n + 1, f => sg n f + f n
theorem sg_congr {n : Nat} {f g : Nat → Int} (h : ∀ i, i < n → f i = g i) : sg n f = sg n g := by
  induction n with
  | zero => rfl
  | succ n ih => simp only [sg]; rw [ih (fun i hi => h i (by omega)), h n (by omega)]
theorem sg_add (n : Nat) (f g : Nat → Int) : sg n (fun i => f i + g i) = sg n f + sg n g := by
  induction n with
  | zero => rfl
  | succ n ih => simp only [sg]; rw [ih]; omega
theorem sg_mul (n : Nat) (f : Nat → Int) (c : Int) : sg n (fun i => f i * c) = sg n f * c := by
  induction n with
  | zero => simp [sg]
  | succ n ih => simp only [sg]; rw [ih, Int.add_mul]
theorem sg_zero (n : Nat) : sg n (fun _ => 0) = 0 := by
  induction n with
  | zero => rfl
  | succ n ih => simp only [sg]; rw [ih]; rfl
theorem sg_one (n j : Nat) (hj : j < n) (c : Int) : sg n (fun i => if j = i then c else 0) = c := by
  induction n with
  | zero => omega
  | succ n ih =>
    simp only [sg]
    by_cases e : j = n
    · subst e
      rw [if_pos rfl, sg_congr (g := fun _ => 0) (fun i hi => if_neg (by omega)), sg_zero]; omega
    · rw [if_neg e, ih (by omega)]; omega
/-- How many times a variable stands in a form. -/
def coef : List S47 → Nat → Int
  | [], _ => 0
  | m :: l, v => (if m.f0 = (v : Int) then m.f1 else 0) + coef l v
theorem rightL_vars {l : List S47} (h : rightL (-1) l = true) : ∀ m ∈ l, 0 ≤ m.f0 ∧ m.f0 < 64 := fun m hm => by
  have := rightL_mem l (-1) h m hm; omega
theorem coef_none : ∀ (l : List S47) (last : Int), rightL last l = true → ∀ v : Nat, (v : Int) ≤ last → coef l v = 0 := by
  intro l
  induction l with
  | nil => intro _ _ _ _; rfl
  | cons m l ih =>
    intro last h v hv
    simp only [rightL, Bool.and_eq_true, decide_eq_true_eq] at h
    simp only [coef]
    rw [if_neg (by omega), ih m.f0 h.2 v (by omega)]; rfl
theorem coef_R64 : ∀ (l : List S47) (last : Int), rightL last l = true → M64 l → ∀ v : Nat, R64 (coef l v) := by
  intro l
  induction l with
  | nil => intro _ _ _ _; exact ⟨by simp [coef], by simp [coef]⟩
  | cons m l ih =>
    intro last h hM v
    have hr := h
    simp only [rightL, Bool.and_eq_true, decide_eq_true_eq] at h
    simp only [coef]
    by_cases e : m.f0 = (v : Int)
    · rw [if_pos e, coef_none l m.f0 h.2 v (by omega), Int.add_zero]; exact (hM m (List.mem_cons_self ..)).2
    · rw [if_neg e, Int.zero_add]; exact ih m.f0 h.2 (fun a ha => hM a (List.mem_cons_of_mem _ ha)) v

/-- The form of which the variables stand so many times. -/
def linOf (c : Nat → Int) (n : Nat) : List S47 := (List.range n).filterMap fun i => if c i = 0 then none else some ⟨(i : Int), c i⟩
theorem linOf_succ (c : Nat → Int) (n : Nat) : linOf c (n + 1) = linOf c n ++ (if c n = 0 then [] else [⟨(n : Int), c n⟩]) := by
  unfold linOf
  rw [List.range_succ, List.filterMap_append]
  congr 1
  simp only [List.filterMap_cons, List.filterMap_nil]
  split <;> simp_all
theorem linOf_mem (c : Nat → Int) : ∀ (n : Nat) (m : S47), m ∈ linOf c n → ∃ i : Nat, i < n ∧ m = ⟨(i : Int), c i⟩ ∧ c i ≠ 0 := by
  intro n
  induction n with
  | zero => intro m hm; cases hm
  | succ n ih =>
    intro m hm
    rw [linOf_succ] at hm
    rcases List.mem_append.1 hm with h | h
    · obtain ⟨i, h1, h2⟩ := ih m h; exact ⟨i, by omega, h2⟩
    · by_cases e : c n = 0
      · rw [if_pos e] at h; cases h
      · rw [if_neg e] at h; exact ⟨n, by omega, by simpa using h, e⟩
theorem linOf_len (c : Nat → Int) (n : Nat) : (linOf c n).length ≤ n := by
  have := List.length_filterMap_le (fun i : Nat => if c i = 0 then none else some (⟨(i : Int), c i⟩ : S47)) (List.range n)
  simpa [linOf] using this
theorem rightL_append : ∀ (a : List S47) (last : Int) (m : S47), rightL last a = true → (∀ x ∈ a, x.f0 < m.f0) → last < m.f0 → m.f0 < 64 → m.f1 ≠ 0 → rightL last (a ++ [m]) = true := by
  intro a
  induction a with
  | nil => intro last m _ _ h1 h2 h3; simp [rightL, h1, h2, h3]
  | cons b a ih =>
    intro last m h hlt h1 h2 h3
    simp only [rightL, Bool.and_eq_true, List.cons_append] at h ⊢
    exact ⟨h.1, ih b.f0 m h.2 (fun x hx => hlt x (List.mem_cons_of_mem _ hx)) (hlt b (List.mem_cons_self ..)) h2 h3⟩
theorem linOf_right (c : Nat → Int) : ∀ n, n ≤ 64 → rightL (-1) (linOf c n) = true := by
  intro n
  induction n with
  | zero => intro _; rfl
  | succ n ih =>
    intro hn
    rw [linOf_succ]
    by_cases e : c n = 0
    · rw [if_pos e, List.append_nil]; exact ih (by omega)
    · rw [if_neg e]
      refine rightL_append _ _ _ (ih (by omega)) (fun x hx => ?_) (by simp only; omega) (by simp only; omega) e
      obtain ⟨i, hi, rfl, _⟩ := linOf_mem c n x hx
      simp only; omega
theorem linOf_M64 (c : Nat → Int) (n : Nat) (hn : n ≤ 64) (h : ∀ v, v < n → R64 (c v)) : M64 (linOf c n) := by
  intro m hm
  obtain ⟨i, hi, rfl, _⟩ := linOf_mem c n m hm
  exact ⟨⟨by simp only; omega, by simp only; omega⟩, h i hi⟩
theorem linOf_congr {c d : Nat → Int} {n : Nat} (h : ∀ i, i < n → c i = d i) : linOf c n = linOf d n := by
  induction n with
  | zero => rfl
  | succ n ih => rw [linOf_succ, linOf_succ, ih (fun i hi => h i (by omega)), h n (by omega)]

/-- How many times a variable stands in a sum; and the sum's constant. -/
def csum : List S67 → Nat → Int
  | [], _ => 0
  | x :: l, v => coef x.f0.f1 v * x.f1 + csum l v
def kS : List S67 → Int
  | [] => 0
  | x :: l => x.f0.f0 * x.f1 + kS l
theorem ksum_eq (l : List S67) : ∀ s, l.foldl (fun s x => s + x.f0.f0 * x.f1) s = s + kS l := by
  induction l with
  | nil => intro s; simp [kS]
  | cons x l ih => intro s; simp only [List.foldl_cons, kS]; rw [ih]; omega
theorem addM_len (b : Int) (acc : List Int) (m : S47) : (addM b acc m).length = acc.length := by simp [addM]
theorem addMs_len (b : Int) (l : List S47) : ∀ acc : List Int, (l.foldl (addM b) acc).length = acc.length := by
  induction l with
  | nil => intro _; rfl
  | cons m l ih => intro acc; rw [List.foldl_cons, ih, addM_len]
theorem addM_get (b : Int) (acc : List Int) (m : S47) (v : Nat) (hv : v < acc.length) (h0 : 0 ≤ m.f0) : (addM b acc m).getD v 0 = acc.getD v 0 + (if m.f0 = (v : Int) then m.f1 else 0) * b := by
  unfold addM
  rw [List.getD_eq_getElem?_getD, List.getElem?_set, List.getD_eq_getElem?_getD, List.getD_eq_getElem?_getD]
  by_cases e : m.f0 = (v : Int)
  · have e2 : m.f0.toNat = v := by omega
    rw [if_pos e, if_pos e2, if_pos (by omega), e2]; rfl
  · rw [if_neg e, if_neg (by omega), Int.zero_mul, Int.add_zero]
theorem addMs_get (b : Int) (v : Nat) (l : List S47) : ∀ acc : List Int, v < acc.length → (∀ m ∈ l, 0 ≤ m.f0) → (l.foldl (addM b) acc).getD v 0 = acc.getD v 0 + coef l v * b := by
  induction l with
  | nil => intro acc _ _; simp [coef]
  | cons m l ih =>
    intro acc hv h
    rw [List.foldl_cons, ih _ (by rw [addM_len]; exact hv) (fun a ha => h a (List.mem_cons_of_mem _ ha)), addM_get b acc m v hv (h m (List.mem_cons_self ..))]
    simp only [coef, Int.add_mul]; omega
theorem accs_get (v : Nat) (l : List S67) : ∀ acc : List Int, v < acc.length → (∀ x ∈ l, ∀ m ∈ x.f0.f1, 0 ≤ m.f0) → (l.foldl addF acc).getD v 0 = acc.getD v 0 + csum l v := by
  induction l with
  | nil => intro acc _ _; simp [csum]
  | cons x l ih =>
    intro acc hv h
    rw [List.foldl_cons, ih _ (by unfold addF; rw [addMs_len]; exact hv) (fun a ha => h a (List.mem_cons_of_mem _ ha))]
    unfold addF
    rw [addMs_get x.f1 v x.f0.f1 acc hv (h x (List.mem_cons_self ..))]
    simp only [csum]; omega

/-- A sum's parts: forms that are right, and numbers in range. -/
def G67 (l : List S67) : Prop := ∀ x ∈ l, R64 x.f0.f0 ∧ rightL (-1) x.f0.f1 = true ∧ M64 x.f0.f1 ∧ R64 x.f1
theorem G67_tail {x : S67} {l : List S67} (h : G67 (x :: l)) : G67 l := fun a ha => h a (List.mem_cons_of_mem _ ha)
theorem csum_le (v : Nat) : ∀ l : List S67, G67 l → -(l.length * 85070591730234615865843651857942052864 : Int) ≤ csum l v ∧ csum l v ≤ l.length * 85070591730234615865843651857942052864 := by
  intro l
  induction l with
  | nil => intro _; simp [csum]
  | cons x l ih =>
    intro h
    have h1 := ih (G67_tail h)
    have hx := h x (List.mem_cons_self ..)
    have h2 := mul_R64 (coef_R64 x.f0.f1 (-1) hx.2.1 hx.2.2.1 v) hx.2.2.2
    simp only [csum, List.length_cons]
    omega
theorem kS_le : ∀ l : List S67, G67 l → -(l.length * 85070591730234615865843651857942052864 : Int) ≤ kS l ∧ kS l ≤ l.length * 85070591730234615865843651857942052864 := by
  intro l
  induction l with
  | nil => intro _; simp [kS]
  | cons x l ih =>
    intro h
    have h1 := ih (G67_tail h)
    have hx := h x (List.mem_cons_self ..)
    have h2 := mul_R64 hx.1 hx.2.2.2
    simp only [kS, List.length_cons]
    omega
def fitsC (c : Nat → Int) : Bool := (List.range 64).all fun v => decide (R64 (c v))
theorem fitsC_R64 {c : Nat → Int} (h : fitsC c = true) : ∀ v, v < 64 → R64 (c v) := by
  intro v hv
  have := List.all_eq_true.1 h v (List.mem_range.2 hv)
  simpa using this
theorem filterMap_congr_ {α β : Type} (l : List α) (f g : α → Option β) (h : ∀ a ∈ l, f a = g a) : l.filterMap f = l.filterMap g := by
  induction l with
  | nil => rfl
  | cons a l ih =>
    rw [List.filterMap_cons, List.filterMap_cons, h a (List.mem_cons_self ..), ih (fun b hb => h b (List.mem_cons_of_mem _ hb))]
/-- What a sum comes to. -/
def sumR (l : List S67) : Int × List S47 × Int :=
  if R64 (kS l) ∧ fitsC (csum l) = true then (kS l, linOf (csum l) 64, 0) else (0, [], 5)
theorem fit64_R {n : Int} (h : R64 n) : fit64 n = (n, true) := by
  have h' : -9223372036854775808 ≤ n ∧ n ≤ 9223372036854775807 := h
  unfold fit64; rw [if_pos h']
theorem fit64_N {n : Int} (h : ¬ R64 n) : fit64 n = (0, false) := by
  have h' : ¬ (-9223372036854775808 ≤ n ∧ n ≤ 9223372036854775807) := h
  unfold fit64; rw [if_neg h']
theorem fit64_2 (n : Int) : (fit64 n).2 = decide (R64 n) := by
  by_cases h : R64 n
  · rw [fit64_R h, decide_eq_true h]
  · rw [fit64_N h, decide_eq_false h]
theorem sum_eq (l : List S67) (h : G67 l) (hl : l.length ≤ 9223372036854775807) : lin_sum.f l = some (sumR l) := by
  have hg : l.all goodF = true := by
    rw [List.all_eq_true]
    intro x hx
    obtain ⟨a, b, c, d⟩ := h x hx
    simp only [goodF, Bool.and_eq_true, List.all_eq_true]
    refine ⟨⟨in64_of a, in64_of d⟩, fun m hm => ?_⟩
    have := rightL_vars b m hm
    simp only [goodM, Bool.and_eq_true, decide_eq_true_eq]
    exact ⟨this, in64_of (c m hm).2⟩
  have hacc : ∀ v, v < 64 → (accs l).getD v 0 = csum l v := by
    intro v hv
    unfold accs
    rw [accs_get v l _ (by simpa using hv) (fun x hx m hm => (rightL_vars (h x hx).2.1 m hm).1)]
    have h0 : (List.replicate 64 (0:Int)).getD v 0 = 0 := by rw [List.getD_eq_getElem?_getD, List.getElem?_replicate, if_pos hv]; rfl
    rw [h0]; omega
  have hW : ∀ v, v < 64 → fit192 ((accs l).getD v 0) = fit64 (csum l v) := by
    intro v hv
    rw [hacc v hv]
    unfold fit192
    have := csum_le v l h
    rw [wrap192_id (by omega) (by omega)]
  have hK : fit192 (ksum l) = fit64 (kS l) := by
    have e : ksum l = kS l := by unfold ksum; rw [ksum_eq]; omega
    rw [e]
    unfold fit192
    have := kS_le l h
    rw [wrap192_id (by omega) (by omega)]
  have hall : ((List.range 64).all fun i => (fit192 ((accs l).getD i 0)).2) = fitsC (csum l) := by
    unfold fitsC
    rw [Bool.eq_iff_iff, List.all_eq_true, List.all_eq_true]
    constructor
    · intro hh v hv
      have := hh v hv
      rwa [hW v (List.mem_range.1 hv), fit64_2] at this
    · intro hh v hv
      have := hh v hv
      rwa [hW v (List.mem_range.1 hv), fit64_2]
  unfold lin_sum.f sumR
  rw [if_pos hg, hK, fit64_2]
  unfold sumOk
  rw [hall]
  by_cases e : R64 (kS l) ∧ fitsC (csum l) = true
  · rw [if_pos e, if_pos (by simp [e.1, e.2]), fit64_R e.1]
    congr 3
    have hc := fitsC_R64 e.2
    unfold sumOut linOf
    refine filterMap_congr_ _ _ _ fun i hi => ?_
    rw [hW i (List.mem_range.1 hi), fit64_R (hc i (List.mem_range.1 hi))]
  · rw [if_neg e, if_neg (by simp only [Bool.and_eq_true, decide_eq_true_eq]; exact e)]
/-- The forms, each with its number of times. -/
def zipS (l0 : List S28) (l1 : List Int) : List S67 := List.zipWith (fun q b => ⟨q, b⟩) l0 l1
theorem zipS_G67 {l0 : List S28} {l1 : List Int} (h0 : ∀ q ∈ l0, R64 q.f0 ∧ M64 q.f1) (hr : l0.all (fun q => rightL (-1) q.f1) = true) (h1 : I64 l1) : G67 (zipS l0 l1) := by
  intro x hx
  obtain ⟨i, hi, he⟩ := List.getElem_of_mem hx
  unfold zipS at he hi
  rw [List.getElem_zipWith] at he
  subst he
  simp only [List.length_zipWith] at hi
  have a0 : l0[i]'(by omega) ∈ l0 := List.getElem_mem _
  have a1 : l1[i]'(by omega) ∈ l1 := List.getElem_mem _
  exact ⟨(h0 _ a0).1, List.all_eq_true.1 hr _ a0, (h0 _ a0).2, h1 _ a1⟩
def sumD (l0 : List S28) (l1 : List Int) : Int × List S47 × Int :=
  if l0.all (fun q => rightL (-1) q.f1) = true ∧ l0.length = l1.length then sumR (zipS l0 l1) else (0, [], 1)
theorem linSum_l0 (l0 : List S28) (l1 : List Int) (hG : G67 (zipS l0 l1)) (he : l0.length = l1.length) (hlen : l0.length ≤ 1000000) : ∀ (d i : Nat) (acc : List S67), l0.length - i = d → i ≤ l0.length → acc = (zipS l0 l1).take i →
    Ev (fun k => lin_Sum.l0 k l1 acc l0 (l0.length:Int) i) (sumR (zipS l0 l1)) := by
  have hzl : (zipS l0 l1).length = l0.length := by simp [zipS, he]
  intro d
  induction d with
  | zero =>
    intro i acc h1 h2 hacc
    refine Ev.succ (Ev.now fun k => ?_)
    simp only [lin_Sum.l0]
    rw [if_neg (by omega), hacc, List.take_of_length_le (by omega), sum_eq _ hG (by omega)]; rfl
  | succ d ih =>
    intro i acc h1 h2 hacc
    have hi : i < l0.length := by omega
    refine Ev.succ (Ev.of (ih (i+1) (acc ++ [⟨l0[i], l1[i]'(by omega)⟩]) (by omega) (by omega) ?_) fun k => ?_)
    · rw [hacc, List.take_succ_eq_append_getElem (by omega)]
      simp [zipS]
    · have hal : acc.length ≤ 1000000 := by rw [hacc]; simp; omega
      simp only [lin_Sum.l0]
      rw [if_pos (by omega), if_pos (by omega), if_pos (by omega), if_pos (by omega), if_pos (by omega), rdQ_at l0 i hi, rd_at l1 i (by omega), w64 (by omega) (by omega)]; rfl
theorem linSum_ev (l0 : List S28) (l1 : List Int) (h0 : ∀ q ∈ l0, R64 q.f0 ∧ M64 q.f1 ∧ q.f1.length ≤ 9223372036854775807) (h1 : I64 l1) (hlen : l0.length ≤ 1000000) :
    Ev (fun k => lin_Sum.f k l0 l1) (sumD l0 l1) := by
  refine Ev.bind (linright_ev l0 (by omega) (fun q hq => (h0 q hq).2.2)) ?_
  unfold sumD
  by_cases e : l0.all (fun q => rightL (-1) q.f1) = true
  · refine Ev.pos e ?_
    by_cases e2 : l0.length = l1.length
    · rw [if_pos ⟨e, e2⟩]
      refine Ev.succ (Ev.of (linSum_l0 l0 l1 (zipS_G67 (fun q hq => ⟨(h0 q hq).1, (h0 q hq).2.1⟩) e h1) e2 hlen _ 0 [] rfl (by omega) (by simp)) fun k => ?_)
      simp only [lin_Sum.j0]
      rw [if_neg (by simp; omega)]; rfl
    · rw [if_neg (fun h => e2 h.2)]
      refine Ev.succ (Ev.now fun k => ?_)
      simp only [lin_Sum.j0]
      rw [if_pos (by simp; omega)]
  · rw [if_neg (fun h => e h.1)]
    refine Ev.neg e (Ev.succ (Ev.now fun k => ?_))
    simp only [lin_Sum.j0, if_true]
theorem sumR_fine (l : List S67) : R64 (sumR l).1 ∧ M64 (sumR l).2.1 ∧ (sumR l).2.1.length ≤ 64 ∧ rightL (-1) (sumR l).2.1 = true := by
  unfold sumR
  by_cases e : R64 (kS l) ∧ fitsC (csum l) = true
  · rw [if_pos e]
    exact ⟨e.1, linOf_M64 _ 64 (Nat.le_refl _) (fitsC_R64 e.2), linOf_len _ 64, linOf_right _ 64 (Nat.le_refl _)⟩
  · rw [if_neg e]
    refine ⟨⟨by simp, by simp⟩, ?_, by simp, rfl⟩
    intro m hm
    cases hm

/-! ### Not28 -/
theorem Scale_ev (K : Int) (l : List S47) (c : Int) (hK : R64 K) (hl : M64 l) (hc : R64 c) (hlen : l.length ≤ 9223372036854775807) : Ev (fun k => lin_Scale.f k K l c) (sumD [⟨K, l⟩] [c]) := by
  refine Ev.bind (linSum_ev _ _ (by intro q hq; simp at hq; subst hq; exact ⟨hK, hl, hlen⟩) (by intro y hy; simp at hy; subst hy; exact hc) (by simp)) (Ev.now fun _ => rfl)
theorem Add_ev (K : Int) (l : List S47) (K2 : Int) (l2 : List S47) (hK : R64 K) (hl : M64 l) (hlen : l.length ≤ 9223372036854775807) (hK2 : R64 K2) (hl2 : M64 l2) (hlen2 : l2.length ≤ 9223372036854775807) :
    Ev (fun k => lin_Add.f k K l K2 l2) (sumD [⟨K, l⟩, ⟨K2, l2⟩] [1, 1]) := by
  refine Ev.bind (linSum_ev _ _ (by
    intro q hq
    simp at hq
    rcases hq with e | e
    · subst e; exact ⟨hK, hl, hlen⟩
    · subst e; exact ⟨hK2, hl2, hlen2⟩) (by intro y hy; simp at hy; subst hy; exact ⟨by simp, by simp⟩) (by simp)) (Ev.now fun _ => rfl)
theorem sumD_fine (l0 : List S28) (l1 : List Int) : R64 (sumD l0 l1).1 ∧ M64 (sumD l0 l1).2.1 ∧ (sumD l0 l1).2.1.length ≤ 64 ∧ rightL (-1) (sumD l0 l1).2.1 = true := by
  unfold sumD
  split
  · exact sumR_fine _
  · refine ⟨⟨by simp, by simp⟩, ?_, by simp, rfl⟩
    intro m hm
    cases hm
/-- What denies an inequality. -/
def notD (K : Int) (l : List S47) (b : Bool) : Int × List S47 × Bool × Int :=
  if rightL (-1) l = true ∧ b = false then
    (if (sumD [⟨K, l⟩] [-1]).2.2 = 0 then
      (if (sumD [⟨(sumD [⟨K, l⟩] [-1]).1, (sumD [⟨K, l⟩] [-1]).2.1⟩, ⟨1, []⟩] [1, 1]).2.2 = 0 then ((sumD [⟨(sumD [⟨K, l⟩] [-1]).1, (sumD [⟨K, l⟩] [-1]).2.1⟩, ⟨1, []⟩] [1, 1]).1, (sumD [⟨(sumD [⟨K, l⟩] [-1]).1, (sumD [⟨K, l⟩] [-1]).2.1⟩, ⟨1, []⟩] [1, 1]).2.1, false, 0)
       else (0, [], false, (sumD [⟨(sumD [⟨K, l⟩] [-1]).1, (sumD [⟨K, l⟩] [-1]).2.1⟩, ⟨1, []⟩] [1, 1]).2.2))
     else (0, [], false, (sumD [⟨K, l⟩] [-1]).2.2))
  else (0, [], false, 1)
theorem Not_ev {K : Int} (hK : R64 K) (l : List S47) (b : Bool) (hl : M64 l) (hlen : l.length ≤ 9223372036854775807) :
    Ev (fun k => ineq_Not.f k K l b) (notD K l b) := by
  refine Ev.bind (iRight_ev K l b hlen) ?_
  unfold notD
  by_cases e : rightL (-1) l = true
  · refine Ev.pos (by rw [if_pos e]) ?_
    cases b
    · rw [if_pos ⟨e, rfl⟩]
      have hs := sumD_fine [⟨K, l⟩] [-1]
      have h1 := Scale_ev K l (-1) hK hl ⟨by simp, by simp⟩ hlen
      have h2 := Add_ev (sumD [⟨K, l⟩] [-1]).1 (sumD [⟨K, l⟩] [-1]).2.1 1 [] hs.1 hs.2.1 (by omega) ⟨by simp, by simp⟩ (by intro m hm; cases hm) (by simp)
      generalize sumD [⟨K, l⟩] [-1] = s at *
      generalize sumD [⟨s.1, s.2.1⟩, ⟨1, []⟩] [1, 1] = t at *
      refine Ev.succ ?_
      simp only [ineq_Not.j0]
      refine Ev.neg (by simp) (Ev.bind h1 ?_)
      by_cases e1 : s.2.2 = 0
      · rw [if_pos e1]
        refine Ev.pos e1 (Ev.bind h2 ?_)
        by_cases e2 : t.2.2 = 0
        · simp only [if_pos e2]; exact Ev.now fun _ => rfl
        · simp only [if_neg e2]; exact Ev.now fun _ => rfl
      · simp only [if_neg e1]; exact Ev.now fun _ => rfl
    · rw [if_neg (by simp)]
      refine Ev.succ ?_
      simp only [ineq_Not.j0]
      exact Ev.pos trivial (Ev.now fun _ => rfl)
  · rw [if_neg (show ¬ (rightL (-1) l = true ∧ b = false) from fun h => e h.1)]
    refine Ev.neg (by rw [if_neg e]; decide) (Ev.succ ?_)
    simp only [ineq_Not.j0]
    exact Ev.pos trivial (Ev.now fun _ => rfl)
theorem sumD_right {l0 : List S28} {l1 : List Int} (hr : l0.all (fun q => rightL (-1) q.f1) = true) (he : l0.length = l1.length) : sumD l0 l1 = sumR (zipS l0 l1) := by
  unfold sumD; rw [if_pos ⟨hr, he⟩]
theorem not_fine {K : Int} (l : List S47) (b : Bool) : R64 (notD K l b).1 ∧ M64 (notD K l b).2.1 ∧ (notD K l b).2.1.length ≤ 64 ∧ rightL (-1) (notD K l b).2.1 = true := by
  have z : R64 (0:Int) ∧ M64 [] ∧ ([] : List S47).length ≤ 64 ∧ rightL (-1) [] = true := ⟨⟨by simp, by simp⟩, (by intro m hm; cases hm), by simp, rfl⟩
  unfold notD
  repeat' split
  · exact sumD_fine _ _
  · exact z
  · exact z
  · exact z

/-! ### Ref28 -/
theorem form_l0 (K : Int) (l : List S47) (hl : l.length ≤ 9223372036854775807) : ∀ (d i : Nat) (last : Int), l.length - i = d → i ≤ l.length → -1 ≤ last → (i = 0 → last = -1) → (∀ h : i - 1 < l.length, 0 < i → last = l[i-1].f0) →
    Ev (fun k => sequiturref28_Form.l0 k i K l) (rightL last (l.drop i)) := by
  intro d
  induction d with
  | zero =>
    intro i last h1 h2 h3 h4 h5
    refine Ev.succ (Ev.now fun k => ?_)
    simp only [sequiturref28_Form.l0]
    rw [if_neg (by omega), List.drop_eq_nil_of_le (by omega)]; rfl
  | succ d ih =>
    intro i last h1 h2 h3 h4 h5
    have hi : i < l.length := by omega
    rw [List.drop_eq_getElem_cons hi]
    have hs : ∀ k, sequiturref28_Form.l0 (k+1) i K l = if l[i].f0 < 0 then some false else if l[i].f0 ≥ 64 then some false else if l[i].f1 = 0 then some false else if l[i].f0 ≤ last then some false else sequiturref28_Form.l0 k ((i+1 : Nat) : Int) K l := by
      intro k
      simp only [sequiturref28_Form.l0]
      rw [if_pos (by omega), if_pos (by omega), rdM_at l i hi]
      by_cases e1 : l[i].f0 < 0
      · rw [if_pos e1, if_pos e1]
      rw [if_neg e1, if_neg e1]
      by_cases e2 : l[i].f0 ≥ 64
      · rw [if_pos e2, if_pos e2]
      rw [if_neg e2, if_neg e2]
      by_cases e3 : l[i].f1 = 0
      · rw [if_pos e3, if_pos e3]
      rw [if_neg e3, if_neg e3]
      rw [show wrap64 ((i:Int) + 1) = ((i+1 : Nat) : Int) by rw [w64 (by omega) (by omega)]; omega]
      by_cases e4 : i = 0
      · subst e4
        have := h4 rfl
        rw [if_neg (by omega), if_neg (by omega)]
      · have e5 := h5 (by omega) (by omega)
        rw [if_pos (by omega), w64 (by omega) (by omega), if_pos (by omega), if_pos (by omega), show ((i:Int) - 1) = ((i - 1 : Nat) : Int) by omega, rdM_at l (i-1) (by omega), ← e5]
    by_cases e : last < l[i].f0 ∧ l[i].f0 < 64 ∧ l[i].f1 ≠ 0
    · obtain ⟨e1, e2, e3⟩ := e
      refine Ev.succ (Ev.of (ih (i+1) l[i].f0 (by omega) (by omega) (by omega) (by omega) (fun _ _ => rfl)) fun k => ?_) |>.val ?_
      · rw [hs k, if_neg (by omega), if_neg (by omega), if_neg e3, if_neg (by omega)]
      · simp only [rightL, decide_eq_true e1, decide_eq_true e2, decide_eq_true e3, Bool.true_and]
    · refine Ev.succ (Ev.now fun k => ?_)
      have hr : rightL last (l[i] :: l.drop (i+1)) = false := by
        simp only [rightL, Bool.and_eq_false_iff, decide_eq_false_iff_not]
        omega
      rw [hr, hs k]
      by_cases e1 : l[i].f0 < 0
      · rw [if_pos e1]
      by_cases e2 : l[i].f0 ≥ 64
      · rw [if_neg e1, if_pos e2]
      by_cases e3 : l[i].f1 = 0
      · rw [if_neg e1, if_neg e2, if_pos e3]
      · rw [if_neg e1, if_neg e2, if_neg e3, if_pos (by omega)]
theorem Form_ev (K : Int) (l : List S47) (hl : l.length ≤ 9223372036854775807) : Ev (fun k => sequiturref28_Form.f k K l) (rightL (-1) l) := by
  have := form_l0 K l hl _ 0 (-1) rfl (by omega) (by omega) (fun _ => rfl) (fun _ h => by omega)
  exact this
/-- The reference's totals, of a number of 192 bits. -/
def tHi (s : Int) : Int := hiW (s / 18446744073709551616)
def tMid (s : Int) : Int := loW (s / 18446744073709551616)
def tLow (s : Int) : Int := s % 18446744073709551616
theorem hiW_small {p : Int} (h1 : -85070591730234615865843651857942052864 ≤ p) (h2 : p ≤ 85070591730234615865843651857942052864) : hiW p = p / 18446744073709551616 := by
  unfold hiW; exact w64 (by omega) (by omega)
theorem More_ev (s : Int) {a b : Int} (ha : R64 a) (hb : R64 b) : Ev (fun k => sequiturref28_More.f k (tHi s) (tMid s) (tLow s) a b) (tHi (s + a * b), tMid (s + a * b), tLow (s + a * b)) := by
  have hp := mul_R64 ha hb
  have ht : Ev (fun k => sequiturref01_Times.f k a b) (hiW (a * b), loW (a * b)) := Times_ev ha.1 ha.2 hb.1 hb.2
  refine Ev.bind ht (Ev.now fun k => ?_)
  generalize a * b = p at *
  simp only
  rw [hiW_small hp.1 hp.2, Of_eq (by omega) (by omega)]
  simp only [Option.bind_some]
  unfold tHi tMid
  rw [Plus_eq]
  simp only [Option.bind_some, u64w]
  have e1 : (tLow s + loW p) % 18446744073709551616 = tLow (s + p) := by unfold tLow loW; omega
  rw [e1]
  by_cases c : tLow (s + p) < tLow s
  · rw [if_pos c, Of_eq (by omega) (by omega)]
    simp only [Option.bind_some]
    rw [Plus_eq]
    simp only [Option.bind_some]
    rw [show s / 18446744073709551616 + p / 18446744073709551616 + 1 = (s + p) / 18446744073709551616 by unfold tLow at c; omega]
  · rw [if_neg c]
    rw [show s / 18446744073709551616 + p / 18446744073709551616 = (s + p) / 18446744073709551616 by unfold tLow at c; omega]
theorem tot0 : tHi 0 = 0 ∧ tMid 0 = 0 ∧ tLow 0 = 0 := ⟨by unfold tHi hiW wrap64; omega, by unfold tMid loW; omega, by unfold tLow; omega⟩
theorem More0_ev {a b : Int} (ha : R64 a) (hb : R64 b) : Ev (fun k => sequiturref28_More.f k 0 0 0 a b) (tHi (a * b), tMid (a * b), tLow (a * b)) := by
  have h := More_ev 0 ha hb
  rw [tot0.1, tot0.2.1, tot0.2.2, Int.zero_add] at h
  exact h
def fitR (s : Int) : Int × Bool := if R64 s then (s, true) else (0, false)
theorem fitI_R (s : Int) : fitI s = fitR s := rfl
theorem TFits_eq {s : Int} (h1 : -3138550867693340381917894711603833208051177722232017256448 ≤ s) (h2 : s < 3138550867693340381917894711603833208051177722232017256448) : sequiturref28_Fits.f (tHi s) (tMid s) (tLow s) = some (fitR s) := by
  unfold sequiturref28_Fits.f tHi tMid
  rw [Fits_eq _ (by omega) (by omega), fitI_R]
  simp only [Option.bind_some]
  unfold fitR
  by_cases e : R64 (s / 18446744073709551616)
  · rw [if_pos e]
    simp only [if_true]
    have e1 := e.1
    have e2 := e.2
    have hh : s / 18446744073709551616 = hiW s := by unfold hiW; rw [w64 (by omega) (by omega)]
    rw [hh, show tLow s = loW s from rfl, Fits_eq s (by omega) (by omega), fitI_R]
    rfl
  · rw [if_neg e]
    simp only [Bool.false_eq_true, if_false]
    rw [if_neg (fun h : R64 s => e (by have := h.1; have := h.2; exact ⟨by omega, by omega⟩))]

/-! ### RefGcd -/

theorem ref_gcd : ∀ (b a : Nat), ∃ K, ∀ k, K ≤ k → sequiturref01_gcd.f k a b = some (Nat.gcd a b : Int) := by
  intro b
  induction b using Nat.strongRecOn with
  | _ b ih =>
    intro a
    by_cases h : b = 0
    · subst h
      refine ⟨1, fun k hk => ?_⟩
      obtain ⟨m, rfl⟩ : ∃ m, k = m + 1 := ⟨k - 1, by omega⟩
      simp only [sequiturref01_gcd.f, sequiturref01_gcd.l0]
      rw [if_neg (by omega), Nat.gcd_zero_right]
    · obtain ⟨K, ev⟩ := ih (a % b) (Nat.mod_lt _ (by omega)) b
      refine ⟨K + 1, fun k hk => ?_⟩
      obtain ⟨m, rfl⟩ : ∃ m, k = m + 1 := ⟨k - 1, by omega⟩
      have := ev m (by omega)
      simp only [sequiturref01_gcd.f, sequiturref01_gcd.l0] at this ⊢
      rw [if_pos (by omega), if_neg (by omega), tmod_nat, this, Nat.gcd_comm b, ← Nat.gcd_rec, Nat.gcd_comm]

theorem refGcd_l0 (l : List Int) (hl : l.length ≤ 9223372036854775806) (hx : I64 l) : ∀ (d i : Nat) (g : Nat), l.length - i = d → i ≤ l.length → g < 18446744073709551616 →
    ∃ K, ∀ k, K ≤ k → sequiturref01_Gcd.l0 k l g i = some (fit (gcdL (l.drop i) g)) := by
  intro d
  induction d with
  | zero =>
    intro i g h1 h2 hg
    refine ⟨1, fun k hk => ?_⟩
    obtain ⟨m, rfl⟩ : ∃ m, k = m + 1 := ⟨k - 1, by omega⟩
    simp only [sequiturref01_Gcd.l0]
    rw [if_neg (by omega), List.drop_eq_nil_of_le (by omega)]
    show _ = some (fit g)
    unfold fit
    by_cases e : g ≤ 9223372036854775807
    · rw [if_neg (by omega), if_pos e, w64 (by omega) (by omega)]
    · rw [if_pos (by omega), if_neg e]
  | succ d ih =>
    intro i g h1 h2 hg
    have hi : i < l.length := by omega
    have hxi := hx l[i] (List.getElem_mem hi)
    obtain ⟨K, ev⟩ := ref_gcd l[i].natAbs g
    obtain ⟨K', ev'⟩ := ih (i+1) (Nat.gcd g l[i].natAbs) (by omega) (by omega) (gcd_lt hg (by omega))
    refine ⟨max K K' + 1, fun k hk => ?_⟩
    obtain ⟨m, rfl⟩ : ∃ m, k = m + 1 := ⟨k - 1, by omega⟩
    simp only [sequiturref01_Gcd.l0]
    rw [if_pos (by omega), if_pos (by omega), rd_at l i hi, Far_eq hxi.1 hxi.2]
    simp only [Option.bind_some]
    rw [ev m (by omega)]
    simp only [Option.bind_some]
    rw [w64 (by omega) (by omega), List.drop_eq_getElem_cons hi]
    exact ev' m (by omega)
theorem refGcd_ev (l : List Int) (hl : l.length ≤ 9223372036854775806) (hx : I64 l) : ∃ K, ∀ k, K ≤ k → sequiturref01_Gcd.f k l = some (fit (gcdL l 0)) := by
  have := refGcd_l0 l hl hx _ 0 0 rfl (by omega) (by omega)
  simp at this
  exact this

/-! ### RefSum28 -/
theorem by_l0 (K : Int) (l : List S47) (v : Nat) (hv : v ≤ 1000000) (hlen : l.length ≤ 1000000) : ∀ (n i : Nat) (last : Int), l.length - i = n → i ≤ l.length → rightL last (l.drop i) = true →
    Ev (fun k => sequiturref28_By.l0 k v i K l) (coef (l.drop i) v) := by
  intro n
  induction n with
  | zero =>
    intro i last h1 h2 _
    refine Ev.succ (Ev.now fun k => ?_)
    simp only [sequiturref28_By.l0]
    rw [if_neg (by omega), List.drop_eq_nil_of_le (by omega)]; rfl
  | succ n ih =>
    intro i last h1 h2 hr
    have hi : i < l.length := by omega
    rw [List.drop_eq_getElem_cons hi] at hr ⊢
    have hr2 := hr
    simp only [rightL, Bool.and_eq_true, decide_eq_true_eq] at hr2
    by_cases e : l[i].f0 = (v : Int)
    · refine Ev.succ (Ev.now fun k => ?_)
      simp only [sequiturref28_By.l0, coef]
      rw [if_pos (by omega), if_pos (by omega), rdM_at l i hi, if_pos e, if_pos e, coef_none (l.drop (i+1)) l[i].f0 hr2.2 v (by omega), Int.add_zero]
    · refine (Ev.succ (Ev.of (ih (i+1) l[i].f0 (by omega) (by omega) hr2.2) fun k => ?_)).val ?_
      · simp only [sequiturref28_By.l0]
        rw [if_pos (by omega), if_pos (by omega), rdM_at l i hi, if_neg e, w64 (by omega) (by omega)]; rfl
      · simp only [coef]; rw [if_neg e, Int.zero_add]
theorem By_ev (K : Int) (l : List S47) (v : Nat) (hv : v ≤ 1000000) (hr : rightL (-1) l = true) : Ev (fun k => sequiturref28_By.f k K l v) (coef l v) := by
  have hl := rightL_len l (-1) (by omega) hr
  have := by_l0 K l v hv (by omega) _ 0 (-1) rfl (by omega) (by rw [List.drop_zero]; exact hr)
  exact this
theorem zipS_cons (q : S28) (l0 : List S28) (b : Int) (l1 : List Int) : zipS (q :: l0) (b :: l1) = ⟨q, b⟩ :: zipS l0 l1 := rfl
theorem kS_zip_le (l0 : List S28) (l1 : List Int) (i : Nat) (h : G67 (zipS l0 l1)) : G67 (zipS (l0.drop i) (l1.drop i)) := by
  intro x hx
  refine h x ?_
  unfold zipS at hx ⊢
  rw [← List.drop_zipWith] at hx
  exact List.mem_of_mem_drop hx
/-- The reference's sum of forms. -/
theorem refLin_l2 (l0 : List S28) (l1 : List Int) (hG : G67 (zipS l0 l1)) (he : l0.length = l1.length) (hlen : l0.length ≤ 1000000) (ok : Bool) (v : Nat) (hv : v < 64) (K : Int) (L : List S47) (hL : L.length ≤ 64) (R : Int × List S47 × Int)
    (H : Ev (fun k => sequiturref28_Lin.l1 k l0 l1 (ok && (fitR (csum (zipS l0 l1) v)).2) ((v + 1 : Nat) : Int) K (if (fitR (csum (zipS l0 l1) v)).1 = 0 then L else L ++ [⟨(v:Int), (fitR (csum (zipS l0 l1) v)).1⟩])) R) :
    ∀ (n i : Nat) (s : Int), l0.length - i = n → i ≤ l0.length → s + csum (zipS (l0.drop i) (l1.drop i)) v = csum (zipS l0 l1) v →
    Ev (fun k => sequiturref28_Lin.l2 k l0 l1 ok v i K L (tHi s) (tMid s) (tLow s)) R := by
  intro n
  induction n with
  | zero =>
    intro i s h1 h2 hs
    rw [List.drop_eq_nil_of_le (by omega), show zipS [] (l1.drop i) = [] from rfl] at hs
    simp only [csum, Int.add_zero] at hs
    have hb := csum_le v (zipS l0 l1) hG
    have hzl : (zipS l0 l1).length ≤ 1000000 := by unfold zipS; rw [List.length_zipWith]; omega
    have hf : sequiturref28_Fits.f (tHi s) (tMid s) (tLow s) = some (fitR s) := TFits_eq (by omega) (by omega)
    rw [← hs] at H
    refine Ev.succ (Ev.of H fun k => ?_)
    simp only [sequiturref28_Lin.l2]
    rw [if_neg (by omega), hf, show wrap64 ((v:Int) + 1) = ((v+1 : Nat) : Int) by rw [w64 (by omega) (by omega)]; omega]
    simp only [Option.bind_some]
    have hx : L.length < 8796093022208 := by omega
    cases ok
    · simp only [Bool.false_eq_true, if_false, Bool.false_and]
      by_cases z : (fitR s).1 = 0
      · rw [if_pos z, if_pos z]
      · rw [if_neg z, if_neg z, if_pos hx]
    · simp only [if_true, Bool.true_and]
      by_cases z : (fitR s).1 = 0
      · rw [if_pos z, if_pos z]
      · rw [if_neg z, if_neg z, if_pos hx]
  | succ n ih =>
    intro i s h1 h2 hs
    have hi : i < l0.length := by omega
    have hi1 : i < l1.length := by omega
    rw [List.drop_eq_getElem_cons hi, List.drop_eq_getElem_cons hi1, zipS_cons] at hs
    have hg := kS_zip_le l0 l1 i hG
    rw [List.drop_eq_getElem_cons hi, List.drop_eq_getElem_cons hi1, zipS_cons] at hg
    have hx := hg _ (List.mem_cons_self ..)
    have hc := coef_R64 l0[i].f1 (-1) hx.2.1 hx.2.2.1 v
    refine Ev.succ (Ev.of (Ev.bind (g := fun k t => (sequiturref28_More.f k (tHi s) (tMid s) (tLow s) t l1[i]).bind fun bt => sequiturref28_Lin.l2 k l0 l1 ok v ((i+1 : Nat) : Int) K L bt.1 bt.2.1 bt.2.2) (By_ev l0[i].f0 l0[i].f1 v (by omega) hx.2.1) (Ev.bind (More_ev s hc hx.2.2.2) (ih (i+1) (s + coef l0[i].f1 v * l1[i]) (by omega) (by omega) ?_))) fun k => ?_)
    · simp only [csum] at hs; omega
    · simp only [sequiturref28_Lin.l2]
      rw [if_pos (by omega), if_pos (by omega), rdQ_at l0 i hi, show wrap64 ((i:Int) + 1) = ((i+1 : Nat) : Int) by rw [w64 (by omega) (by omega)]; omega, rd_at l1 i hi1]
      congr 1
      funext t
      rw [if_pos (by omega)]
theorem refLin_l1 (l0 : List S28) (l1 : List Int) (hG : G67 (zipS l0 l1)) (he : l0.length = l1.length) (hlen : l0.length ≤ 1000000) (K : Int) (ok0 : Bool) : ∀ (n v : Nat) (ok : Bool) (L : List S47), 64 - v = n → v ≤ 64 → L = linOf (fun v => (fitR (csum (zipS l0 l1) v)).1) v → ok = (ok0 && (List.range v).all fun v => (fitR (csum (zipS l0 l1) v)).2) →
    Ev (fun k => sequiturref28_Lin.l1 k l0 l1 ok v K L) (if (ok0 && (List.range 64).all fun v => (fitR (csum (zipS l0 l1) v)).2) = true then (K, linOf (fun v => (fitR (csum (zipS l0 l1) v)).1) 64, 0) else (0, [], 5)) := by
  intro n
  induction n with
  | zero =>
    intro v ok L h1 h2 hL hok
    obtain rfl : v = 64 := by omega
    refine Ev.succ ?_
    simp only [sequiturref28_Lin.l1]
    refine Ev.neg (by omega) ?_
    subst hL hok
    exact Ev.now fun _ => by split <;> rfl
  | succ n ih =>
    intro v ok L h1 h2 hL hok
    have hLl : L.length ≤ 64 := by rw [hL]; have := linOf_len (fun v => (fitR (csum (zipS l0 l1) v)).1) v; omega
    refine Ev.succ ?_
    simp only [sequiturref28_Lin.l1]
    refine Ev.pos (by omega) ?_
    have h0 := refLin_l2 l0 l1 hG he hlen ok v (by omega) K L hLl _ (ih (v+1) _ _ (by omega) (by omega) (by
      rw [linOf_succ, ← hL]
      split
      · rw [List.append_nil]
      · rfl) (by rw [hok, List.range_succ, List.all_append, ← Bool.and_assoc]; simp only [List.all_cons, List.all_nil, Bool.and_true])) _ 0 0 rfl (by omega) (by rw [List.drop_zero, List.drop_zero]; omega)
    rw [tot0.1, tot0.2.1, tot0.2.2] at h0
    exact h0
theorem refLin_l0 (l0 : List S28) (l1 : List Int) (hG : G67 (zipS l0 l1)) (he : l0.length = l1.length) (hlen : l0.length ≤ 1000000) (R : Int × List S47 × Int)
    (H : Ev (fun k => sequiturref28_Lin.l1 k l0 l1 (fitR (kS (zipS l0 l1))).2 0 (fitR (kS (zipS l0 l1))).1 []) R) :
    ∀ (n i : Nat) (s : Int), l0.length - i = n → i ≤ l0.length → s + kS (zipS (l0.drop i) (l1.drop i)) = kS (zipS l0 l1) →
    Ev (fun k => sequiturref28_Lin.l0 k l0 l1 i (tHi s) (tMid s) (tLow s)) R := by
  intro n
  induction n with
  | zero =>
    intro i s h1 h2 hs
    rw [List.drop_eq_nil_of_le (by omega), show zipS [] (l1.drop i) = [] from rfl] at hs
    simp only [kS, Int.add_zero] at hs
    have hb := kS_le (zipS l0 l1) hG
    have hzl : (zipS l0 l1).length ≤ 1000000 := by unfold zipS; rw [List.length_zipWith]; omega
    have hf : sequiturref28_Fits.f (tHi s) (tMid s) (tLow s) = some (fitR s) := TFits_eq (by omega) (by omega)
    rw [← hs] at H
    refine Ev.succ (Ev.of H fun k => ?_)
    simp only [sequiturref28_Lin.l0]
    rw [if_neg (by omega), hf]; rfl
  | succ n ih =>
    intro i s h1 h2 hs
    have hi : i < l0.length := by omega
    have hi1 : i < l1.length := by omega
    rw [List.drop_eq_getElem_cons hi, List.drop_eq_getElem_cons hi1, zipS_cons] at hs
    have hg := kS_zip_le l0 l1 i hG
    rw [List.drop_eq_getElem_cons hi, List.drop_eq_getElem_cons hi1, zipS_cons] at hg
    have hx := hg _ (List.mem_cons_self ..)
    refine Ev.succ (Ev.of (Ev.bind (g := fun k bt => sequiturref28_Lin.l0 k l0 l1 ((i+1 : Nat) : Int) bt.1 bt.2.1 bt.2.2) (More_ev s hx.1 hx.2.2.2) (ih (i+1) (s + l0[i].f0 * l1[i]) (by omega) (by omega) ?_)) fun k => ?_)
    · simp only [kS] at hs; omega
    · simp only [sequiturref28_Lin.l0]
      rw [if_pos (by omega), if_pos (by omega), if_pos (by omega), rdQ_at l0 i hi, rd_at l1 i hi1, w64 (by omega) (by omega)]; rfl
theorem fitR_2 (n : Int) : (fitR n).2 = decide (R64 n) := by
  unfold fitR; by_cases h : R64 n
  · rw [if_pos h, decide_eq_true h]
  · rw [if_neg h, decide_eq_false h]
theorem refLin_ev (l0 : List S28) (l1 : List Int) (hG : G67 (zipS l0 l1)) (he : l0.length = l1.length) (hlen : l0.length ≤ 1000000) : Ev (fun k => sequiturref28_Lin.f k l0 l1) (sumR (zipS l0 l1)) := by
  have h1 := refLin_l1 l0 l1 hG he hlen (fitR (kS (zipS l0 l1))).1 (fitR (kS (zipS l0 l1))).2 _ 0 (fitR (kS (zipS l0 l1))).2 [] rfl (by omega) rfl (by simp)
  have h0 := refLin_l0 l0 l1 hG he hlen _ h1 _ 0 0 rfl (by omega) (by rw [List.drop_zero, List.drop_zero]; omega)
  rw [tot0.1, tot0.2.1, tot0.2.2] at h0
  refine Ev.val (v := _) h0 ?_
  have hall : ((List.range 64).all fun v => (fitR (csum (zipS l0 l1) v)).2) = fitsC (csum (zipS l0 l1)) := by
    unfold fitsC
    congr 1
    funext v
    exact fitR_2 _
  rw [hall, fitR_2]
  unfold sumR
  by_cases e : R64 (kS (zipS l0 l1)) ∧ fitsC (csum (zipS l0 l1)) = true
  · rw [if_pos e, if_pos (by simp [e.1, e.2])]
    have hc := fitsC_R64 e.2
    have a : (fitR (kS (zipS l0 l1))).1 = kS (zipS l0 l1) := by unfold fitR; rw [if_pos e.1]
    rw [a, linOf_congr (d := csum (zipS l0 l1)) (fun i hi => by unfold fitR; rw [if_pos (hc i hi)])]
  · rw [if_neg e, if_neg (by simp only [Bool.and_eq_true, decide_eq_true_eq]; exact e)]

/-! ### RefBy28 -/
theorem refCeil_eq {K d : Int} (hK : R64 K) (hd : 1 ≤ d) (hd2 : d ≤ 9223372036854775807) : sequiturref01_Ceil.f K d = some (ceilD K d, true) := by
  have hT := (tdiv_R64 hK hd).1
  have hK1 := hK.1
  have hK2 := hK.2
  have hT1 := hT.1
  have hT2 := hT.2
  have he : K = d * Int.tdiv K d + Int.tmod K d := by rw [Int.add_comm]; exact (Int.tmod_add_mul_tdiv K d).symm
  have hW : wrap64 (Int.tdiv K d) = Int.tdiv K d := w64 hT.1 hT.2
  have hD : sequiturref01_Div.f K d = some (if Int.tmod K d = 0 then Int.tdiv K d else if K < 0 then wrap64 (Int.tdiv K d - 1) else Int.tdiv K d, true) := by
    unfold sequiturref01_Div.f
    rw [if_neg (by omega), if_neg (by omega), hW, decide_eq_false (show ¬ d < 0 by omega)]
    by_cases e : Int.tmod K d = 0
    · rw [if_pos e, if_pos e]
    · rw [if_neg e, if_neg e]
      by_cases n : K < 0
      · rw [decide_eq_true n, if_pos (by decide), if_pos n]
      · rw [decide_eq_false n, if_neg (by decide), if_neg n]
  have hM : sequiturref01_Mod.f K d = some (if Int.tmod K d = 0 then Int.tmod K d else if Int.tmod K d < 0 then wrap64 (Int.tmod K d + d) else Int.tmod K d, true) := by
    unfold sequiturref01_Mod.f
    rw [if_neg (by omega), if_neg (by omega), decide_eq_false (show ¬ d < 0 by omega)]
    by_cases e : Int.tmod K d = 0
    · rw [if_pos e, if_pos e]
    · rw [if_neg e, if_neg e]
      by_cases n : Int.tmod K d < 0
      · rw [decide_eq_true n, if_pos (by decide), if_pos n]
      · rw [decide_eq_false n, if_neg (by decide), if_neg n]
  unfold sequiturref01_Ceil.f
  rw [hD, hM]
  simp only [Option.bind_some, if_true]
  by_cases e : Int.tmod K d = 0
  · simp only [if_pos e]
    congr 2
    refine ceilD_uniq hd ?_ ?_ <;> (try rw [Int.mul_sub]) <;> omega
  · simp only [if_neg e]
    by_cases n : K < 0
    · have hm : Int.tmod K d ≤ 0 := by
        have := Int.tmod_nonneg (a := -K) d (by omega)
        rw [Int.neg_tmod] at this; omega
      have hm2 : -d < Int.tmod K d := by
        have := Int.tmod_lt_of_pos (-K) (show 0 < d by omega)
        rw [Int.neg_tmod] at this; omega
      have hd1 : d ≠ 1 := by intro h; subst h; simp at e
      have hq : -(-K / 2) ≤ Int.tdiv K d := by
        rw [((tdiv_R64 hK hd).2 (by omega)).2 n]
        have : 2 * (-K / d) ≤ d * (-K / d) := Int.mul_le_mul_of_nonneg_right (by omega) (Int.ediv_nonneg (by omega) (by omega))
        have := Int.mul_ediv_self_le (x := -K) (k := d) (by omega)
        omega
      rw [if_pos (show Int.tmod K d < 0 by omega), if_pos n, w64 (n := Int.tmod K d + d) (by omega) (by omega), if_neg (by omega), w64 (n := Int.tdiv K d - 1) (by omega) (by omega), w64 (by omega) (by omega)]
      congr 2
      refine ceilD_uniq hd ?_ ?_ <;> (try rw [Int.mul_sub]) <;> (try rw [Int.mul_add]) <;> (try rw [Int.mul_sub]) <;> omega
    · have hm : 0 ≤ Int.tmod K d := Int.tmod_nonneg d (by omega)
      have hm2 : Int.tmod K d < d := Int.tmod_lt_of_pos K (by omega)
      have hd1 : d ≠ 1 := by intro h; subst h; simp at e
      have hq : Int.tdiv K d ≤ K / 2 := by
        rw [((tdiv_R64 hK hd).2 (by omega)).1 (by omega)]
        have : 2 * (K / d) ≤ d * (K / d) := Int.mul_le_mul_of_nonneg_right (by omega) (Int.ediv_nonneg (by omega) (by omega))
        have := Int.mul_ediv_self_le (x := K) (k := d) (by omega)
        omega
      rw [if_neg (show ¬ Int.tmod K d < 0 by omega), if_neg e, if_neg n, w64 (by omega) (by omega)]
      congr 2
      refine ceilD_uniq hd ?_ ?_ <;> (try rw [Int.mul_sub]) <;> (try rw [Int.mul_add]) <;> omega
theorem refby_l0 (d : Int) (hd : 1 ≤ d) (K K0 : Int) (L : List S47) (hL : M64 L) (hlen : L.length ≤ 64) : ∀ (n i : Nat) (y : List S47), L.length - i = n → i ≤ L.length → y = (L.take i).map (divM d) →
    Ev (fun k => sequiturref28_by.l0 k d i K0 L K y) (K, L.map (divM d)) := by
  intro n
  induction n with
  | zero =>
    intro i y h1 h2 hy
    refine Ev.succ (Ev.now fun k => ?_)
    simp only [sequiturref28_by.l0]
    rw [if_neg (by omega), hy, List.take_of_length_le (by omega)]
  | succ n ih =>
    intro i y h1 h2 hy
    have hi : i < L.length := by omega
    have hyl : y.length ≤ 64 := by rw [hy]; simp; omega
    have hT := (tdiv_R64 (hL _ (List.getElem_mem hi)).2 hd).1
    refine Ev.succ (Ev.of (ih (i+1) (y ++ [divM d L[i]]) (by omega) (by omega) ?_) fun k => ?_)
    · rw [hy, List.take_succ_eq_append_getElem hi, List.map_append]; rfl
    · simp only [sequiturref28_by.l0]
      rw [if_pos (by omega), if_pos (by omega), if_neg (by omega), if_pos (by omega), rdM_at L i hi, w64 hT.1 hT.2, w64 (by omega) (by omega)]; rfl
theorem refby_ev {K d : Int} (hK : R64 K) (hd : 1 ≤ d) (hd2 : d ≤ 9223372036854775807) (L : List S47) (hL : M64 L) (hlen : L.length ≤ 64) :
    Ev (fun k => sequiturref28_by.f k K L d) (ceilD K d, L.map (divM d)) := by
  refine Ev.of (refby_l0 d hd (ceilD K d) K L hL hlen _ 0 [] rfl (by omega) rfl) fun k => ?_
  unfold sequiturref28_by.f
  rw [refCeil_eq hK hd hd2]; rfl

/-! ### Not2_28 -/
theorem coef_append (a b : List S47) (v : Nat) : coef (a ++ b) v = coef a v + coef b v := by
  induction a with
  | nil => simp [coef]
  | cons m a ih => simp only [List.cons_append, coef]; rw [ih]; omega
theorem coef_linOf (c : Nat → Int) (v : Nat) : ∀ n, coef (linOf c n) v = if v < n then c v else 0 := by
  intro n
  induction n with
  | zero => rfl
  | succ n ih =>
    rw [linOf_succ, coef_append, ih]
    by_cases e : c n = 0
    · rw [if_pos e]
      by_cases h : v < n
      · rw [if_pos h, if_pos (by omega)]; simp [coef]
      · rw [if_neg h]
        by_cases h2 : v = n
        · subst h2; rw [if_pos (by omega), e]; rfl
        · rw [if_neg (by omega)]; rfl
    · rw [if_neg e]
      rw [show coef [(⟨(n:Int), c n⟩ : S47)] v = (if (n:Int) = (v:Int) then c n else 0) + 0 from rfl]
      by_cases h : v < n
      · rw [if_pos h, if_pos (show v < n + 1 by omega), if_neg (show ¬ (n:Int) = (v:Int) by omega)]; omega
      · rw [if_neg h]
        by_cases h2 : v = n
        · subst h2; rw [if_pos rfl, if_pos (show v < v + 1 by omega)]; omega
        · rw [if_neg (show ¬ (n:Int) = (v:Int) by omega), if_neg (show ¬ v < n + 1 by omega)]; rfl
theorem fitsC_congr {c d : Nat → Int} (h : ∀ v, v < 64 → c v = d v) : fitsC c = fitsC d := by
  unfold fitsC
  rw [Bool.eq_iff_iff, List.all_eq_true, List.all_eq_true]
  constructor
  · intro hh v hv; rw [← h v (List.mem_range.1 hv)]; exact hh v hv
  · intro hh v hv; rw [h v (List.mem_range.1 hv)]; exact hh v hv
theorem sumR_congr {a b : List S67} (hk : kS a = kS b) (hc : ∀ v, v < 64 → csum a v = csum b v) : sumR a = sumR b := by
  unfold sumR
  rw [hk, fitsC_congr hc, linOf_congr hc]
/-- What denies an inequality is one sum. -/
theorem notD_eq (K : Int) (l : List S47) (b : Bool) (hK : R64 K) : notD K l b = if rightL (-1) l = true ∧ b = false then ((sumR [⟨⟨K, l⟩, -1⟩, ⟨⟨1, []⟩, 1⟩]).1, (sumR [⟨⟨K, l⟩, -1⟩, ⟨⟨1, []⟩, 1⟩]).2.1, false, (sumR [⟨⟨K, l⟩, -1⟩, ⟨⟨1, []⟩, 1⟩]).2.2) else (0, [], false, 1) := by
  unfold notD
  by_cases e : rightL (-1) l = true ∧ b = false
  · rw [if_pos e, if_pos e]
    have e0 : sumD [⟨K, l⟩] [-1] = sumR [⟨⟨K, l⟩, -1⟩] := sumD_right (by simp [e.1]) rfl
    have hs := sumD_fine [⟨K, l⟩] [-1]
    have hK1 := hK.1
    have hK2 := hK.2
    have hkb : kS [⟨⟨K, l⟩, -1⟩, ⟨⟨1, []⟩, 1⟩] = 1 - K := by simp only [kS]; omega
    have hka : kS [⟨⟨K, l⟩, -1⟩] = -K := by simp only [kS]; omega
    have hc : ∀ v, csum [⟨⟨K, l⟩, -1⟩, ⟨⟨1, []⟩, 1⟩] v = csum [⟨⟨K, l⟩, -1⟩] v := by intro v; simp only [csum, coef]; omega
    by_cases c1 : R64 (-K) ∧ fitsC (csum [⟨⟨K, l⟩, -1⟩]) = true
    · have hs1 : sumD [⟨K, l⟩] [-1] = (-K, linOf (csum [⟨⟨K, l⟩, -1⟩]) 64, 0) := by
        rw [e0]; unfold sumR; rw [hka, if_pos c1]
      rw [hs1] at hs ⊢
      have e3 : sumD [⟨-K, linOf (csum [⟨⟨K, l⟩, -1⟩]) 64⟩, ⟨1, []⟩] [1, 1] = sumR [⟨⟨-K, linOf (csum [⟨⟨K, l⟩, -1⟩]) 64⟩, 1⟩, ⟨⟨1, []⟩, 1⟩] := sumD_right (by simp [hs.2.2.2, rightL]) rfl
      have e4 : sumR [⟨⟨-K, linOf (csum [⟨⟨K, l⟩, -1⟩]) 64⟩, 1⟩, ⟨⟨1, []⟩, 1⟩] = sumR [⟨⟨K, l⟩, -1⟩, ⟨⟨1, []⟩, 1⟩] := by
        refine sumR_congr ?_ ?_
        · rw [hkb]; simp only [kS]; omega
        · intro v hv
          rw [hc v]
          rw [show csum [⟨⟨-K, linOf (csum [⟨⟨K, l⟩, -1⟩]) 64⟩, 1⟩, ⟨⟨1, []⟩, 1⟩] v = coef (linOf (csum [⟨⟨K, l⟩, -1⟩]) 64) v * 1 + (coef [] v * 1 + 0) from rfl, coef_linOf, if_pos hv]
          simp only [coef]; omega
      simp only [e3, e4, if_true]
      by_cases c2 : (sumR [⟨⟨K, l⟩, -1⟩, ⟨⟨1, []⟩, 1⟩]).2.2 = 0
      · rw [if_pos c2, c2]
      · rw [if_neg c2]
        unfold sumR at c2 ⊢
        split
        · rename_i h; rw [if_pos h] at c2; exact absurd rfl c2
        · rfl
    · have hs1 : sumD [⟨K, l⟩] [-1] = (0, [], 5) := by
        rw [e0]; unfold sumR; rw [hka, if_neg c1]
      have hs2 : sumR [⟨⟨K, l⟩, -1⟩, ⟨⟨1, []⟩, 1⟩] = (0, [], 5) := by
        unfold sumR
        rw [hkb, fitsC_congr (fun v _ => hc v), if_neg]
        intro h
        refine c1 ⟨?_, h.2⟩
        have h1 := h.1.1
        have h2 := h.1.2
        exact ⟨by omega, by omega⟩
      rw [hs1, hs2]; rfl
  · rw [if_neg e, if_neg e]
theorem refNot_ev {K : Int} (hK : R64 K) (l : List S47) (b : Bool) (hl : M64 l) (hlen : l.length ≤ 9223372036854775807) :
    Ev (fun k => sequiturref28_Not.f k K l b) (notD K l b) := by
  rw [notD_eq K l b hK]
  refine Ev.bind (Form_ev K l hlen) ?_
  by_cases e : rightL (-1) l = true
  · cases b
    · rw [if_pos ⟨e, rfl⟩]
      have hG : G67 (zipS [⟨K, l⟩, ⟨1, []⟩] [-1, 1]) := zipS_G67 (by
        intro q hq
        simp at hq
        rcases hq with h | h
        · subst h; exact ⟨hK, hl⟩
        · subst h; exact ⟨⟨by simp, by simp⟩, by intro m hm; cases hm⟩) (by simp [e, rightL]) (by intro y hy; simp at hy; rcases hy with h | h <;> subst h <;> exact ⟨by simp, by simp⟩)
      have h := refLin_ev [⟨K, l⟩, ⟨1, []⟩] [-1, 1] hG rfl (by simp)
      exact Ev.pos e (Ev.neg (by simp) (Ev.bind h (Ev.now fun _ => rfl)))
    · rw [if_neg (by simp)]
      exact Ev.pos e (Ev.pos rfl (Ev.now fun _ => rfl))
  · rw [if_neg (fun h => e h.1)]
    exact Ev.neg e (Ev.now fun _ => rfl)

/-! ### PureIneqTurns -/
theorem refGcdF_l0 (K : Int) (l : List S47) (hl : M64 l) (hlen : l.length ≤ 1000000) : ∀ (d i : Nat) (acc : List Int), l.length - i = d → i ≤ l.length → acc = (l.take i).map (·.f1) →
    Ev (fun k => sequiturref28_Gcd.l0 k acc i K l) (gL l) := by
  intro d
  induction d with
  | zero =>
    intro i acc h1 h2 hacc
    rw [List.take_of_length_le (by omega)] at hacc
    subst hacc
    have hI : I64 (l.map (·.f1)) := by
      intro x hx
      obtain ⟨m, hm, rfl⟩ := List.mem_map.1 hx
      exact (hl m hm).2
    have hg : Ev (fun k => sequiturref01_Gcd.f k (l.map (·.f1))) (fit (gcdL (l.map (·.f1)) 0)) := refGcd_ev _ (by simp; omega) hI
    refine Ev.succ (Ev.of (Ev.bind (g := fun _ t => some t.1) hg (Ev.now fun _ => rfl)) fun k => ?_)
    simp only [sequiturref28_Gcd.l0]
    rw [if_neg (by omega)]
  | succ d ih =>
    intro i acc h1 h2 hacc
    have hi : i < l.length := by omega
    refine Ev.succ (Ev.of (ih (i+1) (acc ++ [l[i].f1]) (by omega) (by omega) ?_) fun k => ?_)
    · rw [hacc, List.take_succ_eq_append_getElem hi, List.map_append]; rfl
    · have hal : acc.length ≤ 1000000 := by rw [hacc]; simp; omega
      simp only [sequiturref28_Gcd.l0]
      rw [if_pos (by omega), if_pos (by omega), if_pos (by omega), rdM_at l i hi, w64 (by omega) (by omega)]; rfl
theorem refTight_ev {K : Int} (hK : R64 K) (l : List S47) (b : Bool) (hl : M64 l) (hlen : l.length ≤ 1000000) :
    Ev (fun k => sequiturref28_Tight.f k K l b) (tightD K l b) := by
  refine Ev.bind (Form_ev K l (by omega)) ?_
  unfold tightD
  by_cases e : rightL (-1) l = true
  · rw [if_pos e]
    have h63 := rightL_len l (-1) (by omega) e
    refine Ev.pos e (Ev.bind (refGcdF_l0 K l hl hlen _ 0 [] rfl (by omega) (by simp)) ?_)
    have hg := gL_range l
    by_cases e2 : gL l < 2
    · rw [if_pos e2]
      exact Ev.pos e2 (Ev.now fun _ => rfl)
    · rw [if_neg e2]
      refine Ev.neg e2 ?_
      have hb := refby_ev hK (show 1 ≤ gL l by omega) hg.2 l hl (by omega)
      cases b
      · rw [if_neg (by simp)]
        exact Ev.neg (by simp) (Ev.bind hb (Ev.now fun _ => rfl))
      · refine Ev.pos rfl (Ev.neg (by omega) ?_)
        by_cases e3 : Int.tmod K (gL l) = 0
        · rw [if_neg (by simp [e3])]
          exact Ev.pos e3 (Ev.bind hb (Ev.now fun _ => rfl))
        · rw [if_pos ⟨rfl, e3⟩]
          exact Ev.neg e3 (Ev.now fun _ => rfl)
  · rw [if_neg e]
    exact Ev.neg e (Ev.now fun _ => rfl)
/-- The same monomials? -/
def eqM : List S47 → List S47 → Bool
  | [], [] => true
  | a :: l, b :: m => a.f0 == b.f0 && a.f1 == b.f1 && eqM l m
  | _, _ => false
theorem eqM_refl : ∀ l, eqM l l = true := by
  intro l
  induction l with
  | nil => rfl
  | cons a l ih => simp [eqM, ih]
theorem monosAt_l0 (l m : List S47) (he : l.length = m.length) (hlen : l.length ≤ 1000000) : ∀ (n i : Nat), l.length - i = n → i ≤ l.length → Ev (fun k => sequiturbase_Monos.l0 k l m i) (eqM (l.drop i) (m.drop i)) := by
  intro n
  induction n with
  | zero =>
    intro i h1 h2
    rw [List.drop_eq_nil_of_le (by omega), List.drop_eq_nil_of_le (by omega)]
    refine Ev.succ (Ev.now fun k => ?_)
    simp only [sequiturbase_Monos.l0]
    rw [if_neg (by omega)]; rfl
  | succ n ih =>
    intro i h1 h2
    have hi : i < l.length := by omega
    have hj : i < m.length := by omega
    rw [List.drop_eq_getElem_cons hi, List.drop_eq_getElem_cons hj]
    refine Ev.succ ?_
    simp only [sequiturbase_Monos.l0]
    refine Ev.pos (by omega) (Ev.pos (by omega) (Ev.pos (by omega) ?_))
    rw [rdM_at l i hi, rdM_at m i hj]
    simp only [eqM]
    by_cases e : (l[i].f0 == m[i].f0 && l[i].f1 == m[i].f1) = true
    · refine Ev.neg (by simp at e; simp [e.1, e.2]) (((ih (i+1) (by omega) (by omega)).of fun k => ?_).val ?_)
      · rw [w64 (by omega) (by omega)]; rfl
      · rw [e, Bool.true_and]
    · have e' : (l[i].f0 == m[i].f0 && l[i].f1 == m[i].f1) = false := by simpa using e
      refine Ev.pos ?_ (Ev.now fun _ => ?_)
      · simp only [Bool.and_eq_false_iff] at e'
        rcases e' with h | h <;> simp [h]
      · rw [e', Bool.false_and]
theorem monos44_l0 (l m : List S47) (he : l.length = m.length) (hlen : l.length ≤ 1000000) : ∀ (n i : Nat), l.length - i = n → i ≤ l.length → Ev (fun k => api_Mono_44.l0 k m l (l.length : Int) i) (eqM (l.drop i) (m.drop i)) := by
  intro n
  induction n with
  | zero =>
    intro i h1 h2
    rw [List.drop_eq_nil_of_le (by omega), List.drop_eq_nil_of_le (by omega)]
    refine Ev.succ (Ev.now fun k => ?_)
    simp only [api_Mono_44.l0]
    rw [if_neg (by omega)]; rfl
  | succ n ih =>
    intro i h1 h2
    have hi : i < l.length := by omega
    have hj : i < m.length := by omega
    rw [List.drop_eq_getElem_cons hi, List.drop_eq_getElem_cons hj]
    refine Ev.succ ?_
    simp only [api_Mono_44.l0]
    refine Ev.pos (by omega) (Ev.pos (by omega) (Ev.pos (by omega) (Ev.pos (by omega) (Ev.bind (v := l[i].f0 == m[i].f0 && l[i].f1 == m[i].f1) (Ev.now fun _ => by rw [rdM_at l i hi, rdM_at m i hj]; rfl) ?_))))
    simp only [eqM]
    by_cases e : (l[i].f0 == m[i].f0 && l[i].f1 == m[i].f1) = true
    · refine Ev.pos e (((ih (i+1) (by omega) (by omega)).of fun k => ?_).val ?_)
      · rw [w64 (by omega) (by omega)]; rfl
      · rw [e, Bool.true_and]
    · have e' : (l[i].f0 == m[i].f0 && l[i].f1 == m[i].f1) = false := by simpa using e
      refine Ev.neg e (Ev.now fun _ => ?_)
      rw [e', Bool.false_and]
theorem eqM_len : ∀ (l m : List S47), l.length ≠ m.length → eqM l m = false := by
  intro l
  induction l with
  | nil => intro m h; cases m with
    | nil => exact absurd rfl h
    | cons b m => rfl
  | cons a l ih => intro m h; cases m with
    | nil => rfl
    | cons b m => simp only [eqM]; rw [ih m (by simpa using h), Bool.and_false]
/-- The same inequality? -/
def sameI (K : Int) (l : List S47) (b : Bool) (K2 : Int) (l2 : List S47) (b2 : Bool) : Bool := b == b2 && (K == K2 && eqM l l2)
theorem baseIneq_ev (K : Int) (l : List S47) (b : Bool) (K2 : Int) (l2 : List S47) (b2 : Bool) (hlen : l.length ≤ 1000000) : Ev (fun k => sequiturbase_Ineq.f k K l b K2 l2 b2) (sameI K l b K2 l2 b2) := by
  have hm : Ev (fun k => sequiturbase_Monos.f k l l2) (eqM l l2) := by
    by_cases e : l.length = l2.length
    · exact Ev.pos (by omega) (monosAt_l0 l l2 e hlen _ 0 rfl (by omega))
    · exact Ev.neg (by omega) (Ev.now fun _ => by rw [eqM_len l l2 e])
  have hl : Ev (fun k => sequiturbase_Lin.f k K l K2 l2) (K == K2 && eqM l l2) := by
    by_cases e : K = K2
    · refine Ev.pos e (Ev.bind hm (Ev.now fun _ => ?_))
      rw [beq_iff_eq.2 e, Bool.true_and]
    · refine Ev.neg e (Ev.now fun _ => ?_)
      rw [beq_eq_false_iff_ne.2 e, Bool.false_and]
  unfold sameI
  by_cases e : (b == b2) = true
  · refine Ev.pos e (Ev.bind hl (Ev.now fun _ => ?_))
    rw [e, Bool.true_and]
  · refine Ev.neg e (Ev.now fun _ => ?_)
    rw [show (b == b2) = false by simpa using e, Bool.false_and]
theorem ineqSame_ev (K : Int) (l : List S47) (b : Bool) (K2 : Int) (l2 : List S47) (b2 : Bool) (hlen : l.length ≤ 1000000) : Ev (fun k => ineq_Same.f k K l b K2 l2 b2) (sameI K l b K2 l2 b2) := by
  have hm : Ev (fun k => api_Mono_44.f k l l2) (eqM l l2) := by
    by_cases e : l.length = l2.length
    · exact Ev.pos (by omega) (monos44_l0 l l2 e hlen _ 0 rfl (by omega))
    · exact Ev.neg (by omega) (Ev.now fun _ => by rw [eqM_len l l2 e])
  unfold sameI
  by_cases e : (b == b2) = true
  · refine Ev.pos e ?_
    by_cases e2 : K = K2
    · refine Ev.pos e2 (Ev.bind hm (Ev.now fun _ => ?_))
      rw [e, beq_iff_eq.2 e2, Bool.true_and, Bool.true_and]
    · refine Ev.neg e2 (Ev.now fun _ => ?_)
      rw [beq_eq_false_iff_ne.2 e2, Bool.false_and, Bool.and_false]
  · refine Ev.neg e (Ev.now fun _ => ?_)
    rw [show (b == b2) = false by simpa using e, Bool.false_and]
theorem sameI_refl (K : Int) (l : List S47) (b : Bool) : sameI K l b K l b = true := by simp [sameI, eqM_refl]
theorem tight_len (K : Int) (l : List S47) (b : Bool) : (tightD K l b).2.1.length ≤ l.length := by
  unfold tightD
  repeat' split
  all_goals simp
theorem IneqTurns_pure (K : Int) (l : List S47) (b : Bool) (K2 : Int) (l2 : List S47) (b2 : Bool) (hK : R64 K) (hl : M64 l) (hlen : l.length ≤ 9223372036854775807) :
    ∃ k, sequiturlaw28_IneqTurns.f k K l b K2 l2 b2 = some true := by
  refine Ev.at_ (f := fun k => sequiturlaw28_IneqTurns.f k K l b K2 l2 b2) (Ev.bind (Short_ev 2 _ (by simp)) ?_)
  have g : Ev (fun k => (sequiturlaw28_goes.f k).bind fun t => some t) true := Ev.bind goes28_ev (Ev.now fun _ => rfl)
  by_cases hs : ([(⟨⟨K, l⟩, b⟩ : S30), ⟨⟨K2, l2⟩, b2⟩].all (fun q => decide (q.f0.f1.length ≤ 100)) && decide ((([(⟨⟨K, l⟩, b⟩ : S30), ⟨⟨K2, l2⟩, b2⟩].length : Nat) : Int) ≤ 2)) = true
  · have h100 : l.length ≤ 100 := by simp at hs; exact hs.1
    have hn := not_fine (K := K) l b
    have ht := tight_len K l b
    refine Ev.pos hs (Ev.bind (Not_ev hK l b hl hlen) (Ev.bind (refNot_ev hK l b hl hlen) (Ev.bind (Tight_ev hK l b hl (by omega)) (Ev.bind (refTight_ev hK l b hl (by omega)) ?_))))
    refine Ev.bind (baseIneq_ev _ _ _ _ _ _ (by omega)) (Ev.pos (sameI_refl _ _ _) (Ev.pos rfl (Ev.bind (baseIneq_ev _ _ _ _ _ _ (by omega)) (Ev.pos (sameI_refl _ _ _) (Ev.pos rfl ?_)))))
    exact Ev.bind (ineqSame_ev _ _ _ _ _ _ (by omega)) (Ev.bind (baseIneq_ev _ _ _ _ _ _ (by omega)) (Ev.pos (by simp) (Ev.bind (ineqSame_ev _ _ _ _ _ _ (by omega)) (Ev.pos (sameI_refl _ _ _) g))))
  · exact Ev.neg hs g

/-! ### OpenRow -/
open Go.ChangeShapes Go.WideShapes
theorem list_of {α : Type} (n : Nat) (p : Nat → α → Prop) (h : ∀ i, i < n → ∃ x, p i x) : ∃ l : List α, l.length = n ∧ ∀ i x, l[i]? = some x → p i x := by
  induction n with
  | zero => exact ⟨[], rfl, by simp⟩
  | succ n ih =>
    obtain ⟨l, hl, hp⟩ := ih (fun i hi => h i (by omega))
    obtain ⟨x, hx⟩ := h n (by omega)
    refine ⟨l ++ [x], by simp [hl], fun i y hy => ?_⟩
    rcases Nat.lt_or_ge i n with q | q
    · rw [List.getElem?_append_left (by omega)] at hy; exact hp i y hy
    · rw [List.getElem?_append_right (by omega)] at hy
      have : i - l.length = 0 := by
        rcases Nat.eq_zero_or_pos (i - l.length) with e | e
        · exact e
        · rw [List.getElem?_eq_none (by simp; omega)] at hy; cases hy
      rw [this] at hy
      obtain rfl : x = y := by simpa using hy
      rw [show i = n by omega]; exact hx
/-- An argument that is a slice, opened: a list of what its elements are. -/
theorem open_row {H : Type} {enc : TypeId × Value → H} {W : World} {held : Bool} {α : Type} (d : Kd α) (Q : α → Prop) {t e : TypeId} {spare : Nat → Bool} {fuel : Nat} {A : Option Addr} {n c : Nat} {x : DataW H × List MemPlace}
    (ht : Try.prog.underlying t = some (.slice e)) (hsz : Try.prog.cellsOf e = d.sz)
    (ho : ∀ m cs y, DataW.trod enc Try.prog W 0 spare held m e cs = some y → ∃ x, d.K W x cs ∧ Q x)
    (h : DataW.trod enc Try.prog W 0 spare held fuel t [.slice A n c] = some x) :
    ∃ l : List α, l.length = n ∧ n ≤ c ∧ c ≤ maxLen ∧ d.C W A n l ∧ ∀ x ∈ l, Q x := by
  rcases Go.Deep.open_slice ht h with ⟨hcs, _⟩ | ⟨a, len, cap, m, n', D, Pl, hcs, _, hl, hm, hmm, _, hi⟩
  · simp at hcs
    obtain ⟨rfl, rfl, rfl⟩ := hcs
    exact ⟨[], rfl, Nat.le_refl _, Nat.zero_le _, Kd.C_nil d W, by simp⟩
  · simp at hcs
    obtain ⟨rfl, rfl, rfl⟩ := hcs
    have hmn : n ≤ m := by rw [hmm]; split <;> omega
    obtain ⟨l, h1, h2⟩ := list_of n (fun i x => (∃ cs, cs.length = d.sz ∧ d.K W x cs ∧ ∀ j u, cs[j]? = some u → W.cell? (a.add (i * d.sz + j)) = some u) ∧ Q x) (fun i hin => by
      obtain ⟨cs, hc, hx⟩ := hi i (by omega)
      obtain ⟨x, hK, hQ⟩ := ho _ _ _ hx
      obtain ⟨_, hlen, hat⟩ := World.cells?_some hc
      refine ⟨x, ⟨cs, hlen.trans hsz, hK, fun j u hj => ?_⟩, hQ⟩
      have hjl : j < cs.length := by
        rcases Nat.lt_or_ge j cs.length with q | q
        · exact q
        · rw [List.getElem?_eq_none q] at hj; cases hj
      rw [← hj, ← hat j (by omega), hsz, Go.Deep.add_add])
    refine ⟨l, h1, hl, hm, ⟨h1, ?_, fun _ => ⟨a, rfl, fun j p hj => (h2 j p hj).1⟩⟩, fun x hx => ?_⟩
    · have : maxLen = 9223372036854775807 := rfl
      omega
    · obtain ⟨i, hi', he⟩ := List.getElem_of_mem hx
      exact (h2 i x (by rw [List.getElem?_eq_getElem hi', he])).2
theorem open_int1 {H : Type} {enc : TypeId × Value → H} {W : World} {held : Bool} {spare : Nat → Bool} {m : Nat} {e : TypeId} (hu : Try.prog.underlying e = some (.int .i64)) (cs : List Value) (y : DataW H × List MemPlace) (h : DataW.trod enc Try.prog W 0 spare held m e cs = some y) :
    ∃ x : Int, (Kd.int .i64).K W x cs ∧ (-9223372036854775808 ≤ x ∧ x ≤ 9223372036854775807) := by
  obtain ⟨n, rfl, _, hw⟩ := DataW.trod_int hu h
  exact ⟨n, rfl, wf64 hw⟩
theorem open_ints1 {H : Type} {enc : TypeId × Value → H} {W : World} {held : Bool} {spare : Nat → Bool} {fuel : Nat} {t e : TypeId} {A : Option Addr} {n c : Nat} {x : DataW H × List MemPlace} (hu : Try.prog.underlying t = some (.slice e)) (he : Try.prog.underlying e = some (.int .i64)) (hc : Try.prog.cellsOf e = 1)
    (h : DataW.trod enc Try.prog W 0 spare held fuel t [.slice A n c] = some x) :
    ∃ l : List Int, l.length = n ∧ n ≤ c ∧ c ≤ maxLen ∧ Kd.C (Kd.int .i64) W A n l ∧ I64 l :=
  open_row (Kd.int .i64) _ hu hc (fun _ cs y h => open_int1 he cs y h) h

/-! ### Open28 -/
/-- A monomial's cells. -/
theorem open_mono {H : Type} {enc : TypeId × Value → H} {W : World} {held : Bool} {spare : Nat → Bool} {m : Nat} (cs : List Value) (y : DataW H × List MemPlace) (h : DataW.trod enc Try.prog W 0 spare held m 47 cs = some y) :
    ∃ x : S47, k47.K W x cs ∧ ((-9223372036854775808 ≤ x.f0 ∧ x.f0 ≤ 9223372036854775807) ∧ -9223372036854775808 ≤ x.f1 ∧ x.f1 ≤ 9223372036854775807) := by
  obtain ⟨y0, y1, n, _, hl, h0, h1⟩ := trod_struct2 Try.underlying47 h
  have e0 : Try.prog.cellsOf 3 = 1 := by kernel_rfl
  have e1 : Try.prog.cellsOf 2 = 1 := by kernel_rfl
  have e2 : Try.prog.cellsOf 47 = 2 := by kernel_rfl
  simp only [e0, e1] at h0 h1
  rw [e2] at hl
  match cs, hl with
  | [c0, c1], _ =>
    obtain ⟨a, ha, _, hw⟩ := DataW.trod_int Try.underlying3 h0
    obtain ⟨b, hb, _, hw2⟩ := DataW.trod_int Try.underlying2 h1
    simp at ha hb
    subst ha hb
    exact ⟨⟨a, b⟩, k47_mk W ⟨a, b⟩, wf64 hw, wf64 hw2⟩
/-- A form's cells. -/
theorem open_lin {H : Type} {enc : TypeId × Value → H} {W : World} {held : Bool} {spare : Nat → Bool} {m : Nat} (cs : List Value) (y : DataW H × List MemPlace) (h : DataW.trod enc Try.prog W 0 spare held m 28 cs = some y) :
    ∃ (x : S28) (A : Option Addr) (c : Nat), cs = [.int .i64 x.f0, .slice A x.f1.length c] ∧ x.f1.length ≤ c ∧ c ≤ maxLen ∧ Kd.C k47 W A x.f1.length x.f1 ∧ R64 x.f0 ∧ M64 x.f1 := by
  obtain ⟨y0, y1, n, _, hl, h0, h1⟩ := trod_struct2 Try.underlying28 h
  have e1 : Try.prog.cellsOf 2 = 1 := by kernel_rfl
  have e0 : Try.prog.cellsOf 26 = 1 := by kernel_rfl
  have e2 : Try.prog.cellsOf 28 = 2 := by kernel_rfl
  simp only [e0, e1] at h0 h1
  rw [e2] at hl
  match cs, hl with
  | [c0, c1], _ =>
    obtain ⟨a, ha, _, hw⟩ := DataW.trod_int Try.underlying2 h0
    simp at ha
    subst ha
    have h2 : DataW.trod enc Try.prog W 0 spare held n 26 [c1] = some y1 := h1
    have hs : ∃ A n c, c1 = .slice A n c := by
      rcases Go.Deep.open_slice Try.underlying26 h2 with ⟨hcs, _⟩ | ⟨a, len, cap, m, n', D, Pl, hcs, _⟩
      · simp at hcs; exact ⟨_, _, _, hcs⟩
      · simp at hcs; exact ⟨_, _, _, hcs⟩
    obtain ⟨A, len, c, rfl⟩ := hs
    obtain ⟨l, rfl, hc, hm, hC, hQ⟩ := open_row k47 _ Try.underlying26 (by kernel_rfl) (fun _ cs y h => open_mono cs y h) h2
    exact ⟨⟨a, l⟩, A, c, rfl, hc, hm, hC, wf64 hw, hQ⟩
/-- An inequality's cells. -/
theorem open_ineq {H : Type} {enc : TypeId × Value → H} {W : World} {held : Bool} {spare : Nat → Bool} {m : Nat} (cs : List Value) (y : DataW H × List MemPlace) (h : DataW.trod enc Try.prog W 0 spare held m 30 cs = some y) :
    ∃ (x : S30) (A : Option Addr) (c : Nat), cs = [.int .i64 x.f0.f0, .slice A x.f0.f1.length c, .bool x.f1] ∧ x.f0.f1.length ≤ c ∧ c ≤ maxLen ∧ Kd.C k47 W A x.f0.f1.length x.f0.f1 ∧ R64 x.f0.f0 ∧ M64 x.f0.f1 := by
  obtain ⟨y0, y1, n, _, hl, h0, h1⟩ := trod_struct2 Try.underlying30 h
  have e1 : Try.prog.cellsOf 4 = 1 := by kernel_rfl
  have e0 : Try.prog.cellsOf 28 = 2 := by kernel_rfl
  have e2 : Try.prog.cellsOf 30 = 3 := by kernel_rfl
  simp only [e0, e1] at h0 h1
  rw [e2] at hl
  match cs, hl with
  | [c0, c1, c2], _ =>
    obtain ⟨b, hb, _⟩ := DataW.trod_bool Try.underlying4 h1
    simp at hb
    subst hb
    obtain ⟨x, A, c, hcs, hc, hm, hC, hr, hM⟩ := open_lin _ _ h0
    simp at hcs
    obtain ⟨rfl, rfl⟩ := hcs
    exact ⟨⟨x, b⟩, A, c, rfl, hc, hm, hC, hr, hM⟩
def Q30 (x : S30) : Prop := R64 x.f0.f0 ∧ M64 x.f0.f1 ∧ x.f0.f1.length ≤ maxLen
theorem open_ineqK {H : Type} {enc : TypeId × Value → H} {W : World} {held : Bool} {spare : Nat → Bool} {m : Nat} (cs : List Value) (y : DataW H × List MemPlace) (h : DataW.trod enc Try.prog W 0 spare held m 30 cs = some y) :
    ∃ x : S30, k30.K W x cs ∧ Q30 x := by
  obtain ⟨x, A, c, rfl, hc, hm, hC, hr, hM⟩ := open_ineq cs y h
  exact ⟨x, k30_mk W x hc hC, hr, hM, Nat.le_trans hc hm⟩
set_option maxRecDepth 100000 in
/-- An inequality that came in, by value. -/
theorem open_ineqV {H : Type} {enc : TypeId × Value → H} {W : World} {held : Bool} {spare : Nat → Bool} {r : Reach} {b0 : Nat} {v : Value} {d : DataW H} {p : List MemPlace} (hv : Value.okWide Try.prog W r b0 30 v) (h : DataW.Trod enc Try.prog W 0 spare held 30 v d p) :
    ∃ (x : S30) (A : Option Addr) (c : Nat), v = .agg #[.int .i64 x.f0.f0, .slice A x.f0.f1.length c, .bool x.f1] ∧ x.f0.f1.length ≤ c ∧ c ≤ maxLen ∧ Kd.C k47 W A x.f0.f1.length x.f0.f1 ∧ R64 x.f0.f0 ∧ M64 x.f0.f1 := by
  obtain ⟨cs, rfl, _⟩ := okWide_struct Try.underlying30 hv
  obtain ⟨fuel, hf⟩ := h
  obtain ⟨x, A, c, hcs, rest⟩ := open_ineq cs.toList _ hf
  exact ⟨x, A, c, congrArg Value.agg (Array.toList_inj.1 hcs), rest⟩
theorem heap47 : Kd.Heap k47 := Kd.heap_iso _ (Kd.heap_pair (Kd.heap_int .i64) (Kd.heap_int .i64))
theorem V47 {W : World} {A : Option Addr} {c : Nat} {l : List S47} (hc : l.length ≤ c) (hC : Kd.C k47 W A l.length l) :
    Kd.V k47 47 W W.heap.size (fun k_ => k_ < W.heap.size) (.slice A l.length c) l := Kd.V_mk hc (Kd.F_below (Kd.C_F heap47 hC) (Below.refl _ _))

end Go.Proofs.Ytmedciidghmkkaa.Pure
