/- Of every two whole numbers of 64 bits the gcd is so many times the one and so many times the other, neither more than it must be. -/
import Derived.Test.YtdglmjhhlnhelaaPNumBezoutsx3
import Derived.Laws.BitsAllLaws
namespace Go.Proofs.Ytdglmjhhlnhelaa.Pure
open Go.RowKit Go.Proofs.Ytdglmjhhlnhelaa.PNumBezouts Go.Proofs.YtdglmjhhlnhelaaW.PrintWords Go.Proofs.YtdglmjhhlnhelaaW.PrintLast
set_option linter.unusedVariables false
set_option linter.unusedSimpArgs false

/-! ### Num -/
theorem odd_coprime_two {a : Nat} (h : a % 2 = 1) : Nat.Coprime a 2 := by
  have h1 : Nat.gcd a 2 ∣ 2 := Nat.gcd_dvd_right a 2
  have h2 : Nat.gcd a 2 ∣ a := Nat.gcd_dvd_left a 2
  have h3 : Nat.gcd a 2 ≤ 2 := Nat.le_of_dvd (by omega) h1
  have h4 : Nat.gcd a 2 ≠ 0 := fun e => by rw [e] at h1; simp at h1
  have h5 : Nat.gcd a 2 ≠ 2 := fun e => by rw [e] at h2; omega
  show Nat.gcd a 2 = 1
  omega

theorem gcd_odd_pow {a : Nat} (h : a % 2 = 1) (t b : Nat) : Nat.gcd a (2 ^ t * b) = Nat.gcd a b :=
  Nat.Coprime.gcd_mul_left_cancel_right b ((odd_coprime_two h).pow_right t).symm

theorem gcd_two_parts {oa ob ta tb : Nat} (ha : oa % 2 = 1) (hb : ob % 2 = 1) :
    Nat.gcd (2 ^ ta * oa) (2 ^ tb * ob) = Nat.gcd oa (2 ^ tb * ob) * 2 ^ min ta tb := by
  rw [gcd_odd_pow ha]
  rcases Nat.le_total ta tb with h | h
  · obtain ⟨d, rfl⟩ := Nat.exists_eq_add_of_le h
    rw [Nat.min_eq_left h, Nat.pow_add, Nat.mul_assoc, Nat.gcd_mul_left, gcd_odd_pow ha, Nat.mul_comm]
  · obtain ⟨d, rfl⟩ := Nat.exists_eq_add_of_le h
    rw [Nat.min_eq_right h, Nat.pow_add, Nat.mul_assoc, Nat.gcd_mul_left, Nat.gcd_comm, gcd_odd_pow hb, Nat.mul_comm, Nat.gcd_comm]

-- one round of the halving: x odd, y = 2^t * z, z odd
theorem gcd_round {x z t : Nat} (hx : x % 2 = 1) : Nat.gcd x (2 ^ t * z) = if z < x then Nat.gcd z (x - z) else Nat.gcd x (z - x) := by
  rw [gcd_odd_pow hx]
  split
  · rename_i h; rw [Nat.gcd_comm, Nat.gcd_sub_self_right (by omega)]
  · rename_i h; rw [Nat.gcd_sub_self_right (by omega)]

theorem mul64 (a b : Nat) (ha : a < 18446744073709551616) (hb : b < 18446744073709551616) :
    ((a / 4294967296) * (b / 4294967296) +
      ((a / 4294967296) * (b % 4294967296) + ((a % 4294967296) * (b % 4294967296)) / 4294967296) / 4294967296 +
      ((((a / 4294967296) * (b % 4294967296) + ((a % 4294967296) * (b % 4294967296)) / 4294967296) % 4294967296) + (a % 4294967296) * (b / 4294967296)) / 4294967296) = a * b / 18446744073709551616 := by
  have hab : a * b = (a / 4294967296) * (b / 4294967296) * 18446744073709551616 + ((a / 4294967296) * (b % 4294967296) + (a % 4294967296) * (b / 4294967296)) * 4294967296 + (a % 4294967296) * (b % 4294967296) := by
    have e1 : a = (a / 4294967296) * 4294967296 + a % 4294967296 := by omega
    have e2 : b = (b / 4294967296) * 4294967296 + b % 4294967296 := by omega
    generalize a / 4294967296 = x at *
    generalize a % 4294967296 = y at *
    generalize b / 4294967296 = u at *
    generalize b % 4294967296 = v at *
    subst e1 e2
    simp only [Nat.add_mul, Nat.mul_add]
    have : x * 4294967296 * (u * 4294967296) = x * u * 18446744073709551616 := by rw [Nat.mul_mul_mul_comm]
    have h2 : x * 4294967296 * v = x * v * 4294967296 := by rw [Nat.mul_right_comm]
    have h3 : y * (u * 4294967296) = y * u * 4294967296 := by rw [Nat.mul_assoc]
    omega
  rw [hab]
  generalize (a / 4294967296) * (b / 4294967296) = p
  generalize (a / 4294967296) * (b % 4294967296) = q
  generalize (a % 4294967296) * (b / 4294967296) = r
  generalize (a % 4294967296) * (b % 4294967296) = s
  omega

theorem u64w (n : Int) : IntKind.u64.wrap n = n % 18446744073709551616 := by
  simp [IntKind.wrap, IntKind.bits, IntKind.signed]
theorem wf64 {a : Int} (h : (Lit.int .i64 a).wf = true) : -9223372036854775808 ≤ a ∧ a ≤ 9223372036854775807 := by
  simpa [Lit.wf, IntKind.min, IntKind.max, IntKind.signed, IntKind.bits] using h
theorem w64 {n : Int} (h1 : -9223372036854775808 ≤ n) (h2 : n ≤ 9223372036854775807) : wrap64 n = n := by
  unfold wrap64; omega
theorem size_eq {a : Int} (h1 : -9223372036854775808 ≤ a) (h2 : a ≤ 9223372036854775807) : num_size.f a = some (a.natAbs : Int) := by
  unfold num_size.f
  simp only [u64w]
  split <;> congr 1 <;> omega

theorem shr_nat (n i : Nat) (hi : i ≤ 64) : shr .u64 (n:Int) (i:Int) = ((n / 2^i : Nat) : Int) := by
  unfold shr
  simp only [IntKind.bits, Int.toNat_natCast, Nat.min_eq_left hi]
  simp
theorem and_one (x : Nat) (h : x < 18446744073709551616) : Go.bits .and .u64 (x:Int) 1 = ((x % 2 : Nat) : Int) := by
  have := u64_and_nat x 1 h (by decide)
  simpa [Nat.and_one_is_mod] using this
theorem twos_l0 (n : Nat) (hn : 0 < n) (h : n < 18446744073709551616) : ∀ (d i : Nat), 64 - i = d → i < 64 → 2^i ∣ n →
    ∃ t : Nat, t < 64 ∧ 2^t ∣ n ∧ n / 2^t % 2 = 1 ∧ ∃ K, ∀ k, K ≤ k → num_twos.l0 k n i = some (t:Int) := by
  intro d
  induction d with
  | zero => intro i h1 h2; omega
  | succ d ih =>
    intro i h1 h2 h3
    have hlt : n / 2^i < 18446744073709551616 := Nat.lt_of_le_of_lt (Nat.div_le_self _ _) h
    by_cases e : n / 2^i % 2 = 1
    · refine ⟨i, h2, h3, e, 1, fun k hk => ?_⟩
      obtain ⟨m, rfl⟩ : ∃ m, k = m + 1 := ⟨k - 1, by omega⟩
      simp only [num_twos.l0]
      rw [if_pos (by omega), if_pos (by omega), shr_nat _ _ (by omega), and_one _ hlt, e]; rfl
    · obtain ⟨c, hc⟩ := h3
      have hp : 0 < 2^i := Nat.two_pow_pos i
      have hd : n / 2^i = c := by rw [hc]; exact Nat.mul_div_cancel_left _ hp
      obtain ⟨m, hm⟩ : ∃ m, c = 2 * m := ⟨c / 2, by omega⟩
      have hm0 : 0 < m := by
        rcases Nat.eq_zero_or_pos m with e | e
        · subst e; rw [hc, hm] at hn; simp at hn
        · exact e
      have hi : i + 1 < 64 := by
        rcases Nat.lt_or_ge (i+1) 64 with q | q
        · exact q
        · exfalso
          have : i = 63 := by omega
          subst this
          have : 2^63 * (2*1) ≤ n := by rw [hc, hm]; exact Nat.mul_le_mul_left _ (by omega)
          omega
      obtain ⟨t, a, b, c', ev⟩ := ih (i+1) (by omega) hi ⟨m, by rw [hc, hm, Nat.pow_succ, Nat.mul_assoc]⟩
      obtain ⟨K, ev⟩ := ev
      refine ⟨t, a, b, c', K + 1, fun k hk => ?_⟩
      obtain ⟨j, rfl⟩ : ∃ m, k = m + 1 := ⟨k - 1, by omega⟩
      simp only [num_twos.l0]
      rw [if_pos (by omega), if_pos (by omega), shr_nat _ _ (by omega), and_one _ hlt, if_neg (by omega), w64 (by omega) (by omega)]
      exact ev j (by omega)
theorem twos_ev (n : Nat) (hn : 0 < n) (h : n < 18446744073709551616) :
    ∃ t z : Nat, n = 2^t * z ∧ z % 2 = 1 ∧ t < 64 ∧ ∃ K, ∀ k, K ≤ k → num_twos.f k n = some (t:Int) := by
  obtain ⟨t, h1, h2, h3, h4⟩ := twos_l0 n hn h 64 0 rfl (by omega) (by simp)
  obtain ⟨z, hz⟩ := h2
  refine ⟨t, z, hz, ?_, h1, h4⟩
  rw [hz, Nat.mul_div_cancel_left _ (Nat.two_pow_pos t)] at h3; exact h3

theorem mul_pow_div (t z : Nat) : 2^t * z / 2^t = z := Nat.mul_div_cancel_left _ (Nat.two_pow_pos t)
theorem le_mul_pow (t z : Nat) : z ≤ 2^t * z := Nat.le_mul_of_pos_left _ (Nat.two_pow_pos t)

theorem common_l0 (both : Nat) : ∀ (s x y : Nat), x + y ≤ s → x % 2 = 1 → x < 18446744073709551616 → y < 18446744073709551616 →
    ∃ K, ∀ k, K ≤ k → num_common.l0 k x y both = some (shl .u64 (Nat.gcd x y) both) := by
  intro s
  induction s with
  | zero => intro x y h1 h2; omega
  | succ s ih =>
    intro x y h1 hx hx2 hy2
    by_cases hy : y = 0
    · subst hy
      refine ⟨1, fun k hk => ?_⟩
      obtain ⟨m, rfl⟩ : ∃ m, k = m + 1 := ⟨k - 1, by omega⟩
      simp only [num_common.l0]
      rw [if_pos (by omega), if_pos (by omega), Nat.gcd_zero_right]
    · obtain ⟨t, z, e, hz, ht, K, ev⟩ := twos_ev y (by omega) hy2
      have hs : shr .u64 (y:Int) (t:Int) = (z:Int) := by rw [shr_nat _ _ (by omega), e, mul_pow_div]
      have hzy : z ≤ y := by rw [e]; exact le_mul_pow t z
      have hg := gcd_round (x := x) (z := z) (t := t) hx
      rw [← e] at hg
      by_cases hlt : z < x
      · rw [if_pos hlt] at hg
        obtain ⟨K', ev'⟩ := ih z (x - z) (by omega) hz (by omega) (by omega)
        refine ⟨max K K' + 1, fun k hk => ?_⟩
        obtain ⟨m, rfl⟩ : ∃ m, k = m + 1 := ⟨k - 1, by omega⟩
        simp only [num_common.l0]
        rw [if_neg (by omega), ev m (by omega)]
        simp only [Option.bind_some]
        rw [if_pos (by omega), hs, if_pos (by omega), u64w, hg, show ((x:Int) - z) % 18446744073709551616 = ((x - z : Nat) : Int) by omega]
        exact ev' m (by omega)
      · rw [if_neg hlt] at hg
        obtain ⟨K', ev'⟩ := ih x (z - x) (by omega) hx (by omega) (by omega)
        refine ⟨max K K' + 1, fun k hk => ?_⟩
        obtain ⟨m, rfl⟩ : ∃ m, k = m + 1 := ⟨k - 1, by omega⟩
        simp only [num_common.l0]
        rw [if_neg (by omega), ev m (by omega)]
        simp only [Option.bind_some]
        rw [if_pos (by omega), hs, if_neg (by omega), u64w, hg, show ((z:Int) - x) % 18446744073709551616 = ((z - x : Nat) : Int) by omega]
        exact ev' m (by omega)

theorem or_zero_left (b : Nat) (h : b < 18446744073709551616) : Go.bits .or .u64 0 (b:Int) = (b:Int) := by
  have := u64_or_nat 0 b (by decide) h
  simpa using this
theorem or_zero_right (b : Nat) (h : b < 18446744073709551616) : Go.bits .or .u64 (b:Int) 0 = (b:Int) := by
  have := u64_or_nat b 0 h (by decide)
  simpa using this

theorem common_ev (a b : Nat) (ha : a < 18446744073709551616) (hb : b < 18446744073709551616) : ∃ K, ∀ k, K ≤ k → num_common.f k a b = some (Nat.gcd a b : Int) := by
  by_cases h0 : a = 0
  · subst h0
    refine ⟨1, fun k hk => ?_⟩
    obtain ⟨m, rfl⟩ : ∃ m, k = m + 1 := ⟨k - 1, by omega⟩
    unfold num_common.f
    simp [num_common.j0, or_zero_left b hb]
  by_cases h1 : b = 0
  · subst h1
    refine ⟨1, fun k hk => ?_⟩
    obtain ⟨m, rfl⟩ : ∃ m, k = m + 1 := ⟨k - 1, by omega⟩
    unfold num_common.f
    rw [if_neg (by omega)]
    simp [num_common.j0, or_zero_right a ha]
  obtain ⟨ta, oa, ea, hoa, hta, Ka, eva⟩ := twos_ev a (by omega) ha
  obtain ⟨tb, ob, eb, hob, htb, Kb, evb⟩ := twos_ev b (by omega) hb
  have hs : shr .u64 (a:Int) (ta:Int) = (oa:Int) := by rw [shr_nat _ _ (by omega), ea, mul_pow_div]
  have hle : oa ≤ a := by rw [ea]; exact le_mul_pow ta oa
  obtain ⟨K, ev⟩ := common_l0 (min ta tb) _ oa b (Nat.le_refl _) hoa (by omega) hb
  refine ⟨max (max Ka Kb) K + 1, fun k hk => ?_⟩
  obtain ⟨m, rfl⟩ : ∃ m, k = m + 1 := ⟨k - 1, by omega⟩
  unfold num_common.f
  rw [if_neg (by omega), show ((b:Int) == 0) = false from beq_eq_false_iff_ne.mpr (by omega)]
  simp only [num_common.j0]
  rw [if_neg (by simp), eva m (by omega)]
  simp only [Option.bind_some]
  rw [evb m (by omega)]
  simp only [Option.bind_some]
  rw [if_pos (by omega), hs, show mn (ta:Int) (tb:Int) = ((min ta tb : Nat) : Int) by unfold mn; split <;> omega, ev m (by omega)]
  congr 1
  unfold shl
  simp only [IntKind.bits, Int.toNat_natCast]
  rw [Nat.min_eq_left (show min ta tb ≤ 64 by omega), u64w]
  have hg := gcd_two_parts (ta := ta) (tb := tb) hoa hob
  rw [← ea, ← eb] at hg
  have hl : Nat.gcd a b ≤ a := Nat.gcd_le_left b (by omega)
  have : ((Nat.gcd oa b : Nat) : Int) * 2 ^ min ta tb = ((Nat.gcd a b : Nat) : Int) := by rw [hg]; simp
  rw [this]
  omega

theorem signed_ev (g : Nat) (h : g < 18446744073709551616) : num_signed.f g false = some (if g ≤ 9223372036854775807 then ((g:Int), true) else (0, false)) := by
  unfold num_signed.f num_told.f
  simp only [Bool.false_eq_true, if_false]
  by_cases e : g ≤ 9223372036854775807
  · rw [decide_eq_true (by omega), if_pos rfl, if_pos e, w64 (by omega) (by omega)]; rfl
  · rw [decide_eq_false (by omega), if_neg (by simp), if_neg e]; rfl

/-- The gcd of the sizes. -/
def gcdL (l : List Int) (g : Nat) : Nat := l.foldl (fun g n => Nat.gcd g n.natAbs) g
def fit (g : Nat) : Int × Bool := if g ≤ 9223372036854775807 then ((g:Int), true) else (0, false)
def I64 (l : List Int) : Prop := ∀ x ∈ l, -9223372036854775808 ≤ x ∧ x ≤ 9223372036854775807

theorem gcd_lt {a b : Nat} (ha : a < 18446744073709551616) (hb : b ≤ 9223372036854775808) : Nat.gcd a b < 18446744073709551616 := by
  rcases Nat.eq_zero_or_pos a with e | e
  · subst e; rw [Nat.gcd_zero_left]; omega
  · have := Nat.gcd_le_left b e; omega
theorem rd_at (l : List Int) (i : Nat) (h : i < l.length) : rd l (i:Int) = l[i] := by
  simp [rd, h]
theorem Gcd_l0 (l : List Int) (hl : l.length ≤ 9223372036854775806) (hx : I64 l) : ∀ (d i : Nat) (g : Nat), l.length - i = d → i ≤ l.length → g < 18446744073709551616 →
    ∃ K, ∀ k, K ≤ k → num_Gcd.l0 k g l (l.length:Int) i = some (fit (gcdL (l.drop i) g)) := by
  intro d
  induction d with
  | zero =>
    intro i g h1 h2 hg
    refine ⟨1, fun k hk => ?_⟩
    obtain ⟨m, rfl⟩ : ∃ m, k = m + 1 := ⟨k - 1, by omega⟩
    simp only [num_Gcd.l0]
    rw [if_neg (by omega), signed_ev g hg]
    rw [List.drop_eq_nil_of_le (by omega)]; rfl
  | succ d ih =>
    intro i g h1 h2 hg
    have hi : i < l.length := by omega
    have hxi := hx l[i] (List.getElem_mem hi)
    obtain ⟨K, ev⟩ := common_ev g l[i].natAbs hg (by omega)
    obtain ⟨K', ev'⟩ := ih (i+1) (Nat.gcd g l[i].natAbs) (by omega) (by omega) (gcd_lt hg (by omega))
    refine ⟨max K K' + 1, fun k hk => ?_⟩
    obtain ⟨m, rfl⟩ : ∃ m, k = m + 1 := ⟨k - 1, by omega⟩
    simp only [num_Gcd.l0]
    rw [if_pos (by omega), if_pos (by omega), if_pos (by omega), rd_at l i hi, size_eq hxi.1 hxi.2]
    simp only [Option.bind_some]
    rw [ev m (by omega)]
    simp only [Option.bind_some]
    rw [w64 (by omega) (by omega), List.drop_eq_getElem_cons hi]
    exact ev' m (by omega)
theorem Gcd_ev (l : List Int) (hl : l.length ≤ 9223372036854775806) (hx : I64 l) : ∃ K, ∀ k, K ≤ k → num_Gcd.f k l = some (fit (gcdL l 0)) := by
  have := Gcd_l0 l hl hx _ 0 0 rfl (by omega) (by omega)
  simp at this
  exact this

theorem gcdL_dvd (l : List Int) : ∀ g : Nat, gcdL l g ∣ g ∧ ∀ x ∈ l, gcdL l g ∣ x.natAbs := by
  induction l with
  | nil => intro g; exact ⟨Nat.dvd_refl _, by simp⟩
  | cons a l ih =>
    intro g
    obtain ⟨h1, h2⟩ := ih (Nat.gcd g a.natAbs)
    refine ⟨Nat.dvd_trans h1 (Nat.gcd_dvd_left _ _), fun x hx => ?_⟩
    rcases List.mem_cons.1 hx with e | e
    · subst e; exact Nat.dvd_trans h1 (Nat.gcd_dvd_right _ _)
    · exact h2 x e
theorem dvd_gcdL (l : List Int) (d : Nat) : ∀ g : Nat, d ∣ g → (∀ x ∈ l, d ∣ x.natAbs) → d ∣ gcdL l g := by
  induction l with
  | nil => intro g h _; exact h
  | cons a l ih =>
    intro g h h2
    exact ih _ (Nat.dvd_gcd h (h2 a (by simp))) (fun x hx => h2 x (by simp [hx]))

theorem gcdL_lt (l : List Int) (hx : I64 l) : ∀ g, g < 18446744073709551616 → gcdL l g < 18446744073709551616 := by
  induction l with
  | nil => intro g h; exact h
  | cons a l ih =>
    intro g h
    have := hx a (by simp)
    exact ih (fun x hx' => hx x (by simp [hx'])) _ (gcd_lt h (by omega))

theorem goes_ev : ∃ K, ∀ k, K ≤ k → sequiturlaw01_goes.f k = some true := by
  obtain ⟨K, ev⟩ := Gcd_ev [12, -18] (by simp) (by intro x hx; simp at hx; omega)
  refine ⟨K, fun k hk => ?_⟩
  unfold sequiturlaw01_goes.f
  rw [ev k hk]
  decide +kernel

/-! ### Far -/
theorem Far_eq {a : Int} (h1 : -9223372036854775808 ≤ a) (h2 : a ≤ 9223372036854775807) : sequiturref01_Far.f a = some (a.natAbs : Int) := by
  unfold sequiturref01_Far.f
  simp only [u64w]
  split <;> congr 1 <;> omega
theorem tmod_nat (a b : Nat) : Int.tmod (a:Int) (b:Int) = ((a % b : Nat) : Int) := (Int.ofNat_tmod a b).symm
theorem mod64 (n : Nat) (h : n < 18446744073709551616) : (n:Int) % 18446744073709551616 = n := by omega
theorem tdiv_nat (a b : Nat) : Int.tdiv (a:Int) (b:Int) = ((a / b : Nat) : Int) := (Int.ofNat_tdiv a b).symm


/-! ### FitI -/
/-- A number, if it fits. -/
def fitI (n : Int) : Int × Bool := if -9223372036854775808 ≤ n ∧ n ≤ 9223372036854775807 then (n, true) else (0, false)
theorem abs_mul_lt {a b : Int} (h1 : -9223372036854775808 ≤ a) (h2 : a ≤ 9223372036854775807) (h3 : -9223372036854775808 ≤ b) (h4 : b ≤ 9223372036854775807) : a.natAbs * b.natAbs ≤ 85070591730234615865843651857942052864 :=
  Nat.le_trans (Nat.mul_le_mul (show a.natAbs ≤ 9223372036854775808 by omega) (show b.natAbs ≤ 9223372036854775808 by omega)) (by decide)


/-! ### RefGcd -/

theorem ref_gcd : ∀ (b a : Nat), ∃ K, ∀ k, K ≤ k → sequiturref01_gcd.f k a b = some (Nat.gcd a b : Int) := by
  intro b
  induction b using Nat.strongRecOn with
  | _ b ih =>
    intro a
    by_cases h : b = 0
    · subst h
      refine ⟨1, fun k hk => ?_⟩
      obtain ⟨m, rfl⟩ : ∃ m, k = m + 1 := ⟨k - 1, by omega⟩
      simp only [sequiturref01_gcd.f, sequiturref01_gcd.l0]
      rw [if_neg (by omega), Nat.gcd_zero_right]
    · obtain ⟨K, ev⟩ := ih (a % b) (Nat.mod_lt _ (by omega)) b
      refine ⟨K + 1, fun k hk => ?_⟩
      obtain ⟨m, rfl⟩ : ∃ m, k = m + 1 := ⟨k - 1, by omega⟩
      have := ev m (by omega)
      simp only [sequiturref01_gcd.f, sequiturref01_gcd.l0] at this ⊢
      rw [if_pos (by omega), if_neg (by omega), tmod_nat, this, Nat.gcd_comm b, ← Nat.gcd_rec, Nat.gcd_comm]

theorem refGcd_l0 (l : List Int) (hl : l.length ≤ 9223372036854775806) (hx : I64 l) : ∀ (d i : Nat) (g : Nat), l.length - i = d → i ≤ l.length → g < 18446744073709551616 →
    ∃ K, ∀ k, K ≤ k → sequiturref01_Gcd.l0 k l g i = some (fit (gcdL (l.drop i) g)) := by
  intro d
  induction d with
  | zero =>
    intro i g h1 h2 hg
    refine ⟨1, fun k hk => ?_⟩
    obtain ⟨m, rfl⟩ : ∃ m, k = m + 1 := ⟨k - 1, by omega⟩
    simp only [sequiturref01_Gcd.l0]
    rw [if_neg (by omega), List.drop_eq_nil_of_le (by omega)]
    show _ = some (fit g)
    unfold fit
    by_cases e : g ≤ 9223372036854775807
    · rw [if_neg (by omega), if_pos e, w64 (by omega) (by omega)]
    · rw [if_pos (by omega), if_neg e]
  | succ d ih =>
    intro i g h1 h2 hg
    have hi : i < l.length := by omega
    have hxi := hx l[i] (List.getElem_mem hi)
    obtain ⟨K, ev⟩ := ref_gcd l[i].natAbs g
    obtain ⟨K', ev'⟩ := ih (i+1) (Nat.gcd g l[i].natAbs) (by omega) (by omega) (gcd_lt hg (by omega))
    refine ⟨max K K' + 1, fun k hk => ?_⟩
    obtain ⟨m, rfl⟩ : ∃ m, k = m + 1 := ⟨k - 1, by omega⟩
    simp only [sequiturref01_Gcd.l0]
    rw [if_pos (by omega), if_pos (by omega), rd_at l i hi, Far_eq hxi.1 hxi.2]
    simp only [Option.bind_some]
    rw [ev m (by omega)]
    simp only [Option.bind_some]
    rw [w64 (by omega) (by omega), List.drop_eq_getElem_cons hi]
    exact ev' m (by omega)
theorem refGcd_ev (l : List Int) (hl : l.length ≤ 9223372036854775806) (hx : I64 l) : ∃ K, ∀ k, K ≤ k → sequiturref01_Gcd.f k l = some (fit (gcdL l 0)) := by
  have := refGcd_l0 l hl hx _ 0 0 rfl (by omega) (by omega)
  simp at this
  exact this

/-! ### Wide -/
/-- The two halves of a number, up to a multiple of 2^128. -/
def hiW (v : Int) : Int := wrap64 (v / 18446744073709551616)
def loW (v : Int) : Int := v % 18446744073709551616
theorem xor_all (x : Int) (h1 : 0 ≤ x) (h2 : x < 18446744073709551616) : Go.bits .xor .u64 18446744073709551615 x = 18446744073709551615 - x := by
  obtain ⟨n, rfl⟩ := Int.eq_ofNat_of_zero_le h1
  refine Eq.trans (u64_xor_nat 18446744073709551615 n (by decide) (by omega)) ?_
  have h : (BitVec.allOnes 64 ^^^ BitVec.ofNat 64 n).toNat = 18446744073709551615 ^^^ n := by
    rw [BitVec.toNat_xor, BitVec.toNat_allOnes, BitVec.toNat_ofNat, Nat.mod_eq_of_lt (by omega)]
  rw [BitVec.allOnes_xor, BitVec.toNat_not, BitVec.toNat_ofNat, Nat.mod_eq_of_lt (by omega)] at h
  omega
theorem Of_eq {a : Int} (h1 : -9223372036854775808 ≤ a) (h2 : a ≤ 9223372036854775807) : sequiturref01_Of.f a = some (hiW a, loW a) := by
  unfold sequiturref01_Of.f hiW loW wrap64
  simp only [u64w]
  split <;> congr 2 <;> omega
theorem Plus_eq (v w : Int) : sequiturref01_Plus.f (hiW v) (loW v) (hiW w) (loW w) = some (hiW (v + w), loW (v + w)) := by
  unfold sequiturref01_Plus.f hiW loW wrap64
  simp only [u64w]
  split <;> congr 2 <;> omega
theorem hiW0 : hiW 0 = 0 := by unfold hiW wrap64; omega
theorem loW0 : loW 0 = 0 := by decide
theorem hiW1 : hiW 1 = 0 := by unfold hiW wrap64; omega
theorem loW1 : loW 1 = 1 := by decide
theorem Minus_eq (v : Int) : sequiturref01_Minus.f (hiW v) (loW v) = some (hiW (-v), loW (-v)) := by
  unfold sequiturref01_Minus.f
  rw [xor_all _ (by unfold loW; omega) (by unfold loW; omega)]
  rw [show wrap64 (-1 - hiW v) = hiW (-1 - v) by unfold hiW wrap64; omega, show 18446744073709551615 - loW v = loW (-1 - v) by unfold loW; omega]
  have := Plus_eq (-1 - v) 1
  rw [hiW1, loW1] at this
  rw [this, show -1 - v + 1 = -v by omega]; rfl
theorem Fits_eq (v : Int) (h1 : -170141183460469231731687303715884105728 ≤ v) (h2 : v < 170141183460469231731687303715884105728) : sequiturref01_Fits.f (hiW v) (loW v) = some (fitI v) := by
  have e : wrap64 (loW v) = if loW v < 9223372036854775808 then loW v else loW v - 18446744073709551616 := by
    have : 0 ≤ loW v ∧ loW v < 18446744073709551616 := by unfold loW; omega
    unfold wrap64; split <;> omega
  have hh : hiW v = v / 18446744073709551616 := by unfold hiW; exact w64 (by omega) (by omega)
  unfold sequiturref01_Fits.f fitI
  rw [e, hh]
  unfold loW
  repeat' split
  all_goals first | omega | (congr 2; omega) | rfl


/-! ### Times -/
theorem Times_l0 : ∀ (u : Nat) (x o : Int), u < 18446744073709551616 → ∃ K, ∀ k, K ≤ k → sequiturref01_Times.l0 k u (hiW x) (loW x) (hiW o) (loW o) = some (hiW (o + u * x), loW (o + u * x)) := by
  intro u
  induction u using Nat.strongRecOn with
  | _ u ih =>
    intro x o hu
    by_cases h : u = 0
    · subst h
      refine ⟨1, fun k hk => ?_⟩
      obtain ⟨m, rfl⟩ : ∃ m, k = m + 1 := ⟨k - 1, by omega⟩
      simp only [sequiturref01_Times.l0]
      rw [if_neg (by omega)]; simp
    · have ht : Int.tdiv (u:Int) 2 = ((u / 2 : Nat) : Int) := (Int.ofNat_tdiv u 2).symm
      have hm : Int.tmod (u:Int) 2 = ((u % 2 : Nat) : Int) := (Int.ofNat_tmod u 2).symm
      have hw : IntKind.u64.wrap (Int.tdiv (u:Int) 2) = ((u / 2 : Nat) : Int) := by rw [ht, u64w]; omega
      have hx : ((u / 2 : Nat) : Int) * (x + x) = ((u - u % 2 : Nat) : Int) * x := by
        rw [← Int.two_mul, ← Int.mul_assoc]; congr 1; omega
      by_cases e : u % 2 = 1
      · obtain ⟨K, ev⟩ := ih (u / 2) (by omega) (x + x) (o + x) (by omega)
        refine ⟨K + 1, fun k hk => ?_⟩
        obtain ⟨m, rfl⟩ : ∃ m, k = m + 1 := ⟨k - 1, by omega⟩
        simp only [sequiturref01_Times.l0]
        rw [if_pos (by omega), hm, e, if_pos (by rfl), Plus_eq, Plus_eq]
        simp only [Option.bind_some]
        rw [hw, ev m (by omega), hx, e]
        have : o + x + ((u - 1 : Nat) : Int) * x = o + u * x := by
          have : (u : Int) = ((u - 1 : Nat) : Int) + 1 := by omega
          rw [this, Int.add_mul]; omega
        rw [this]
      · obtain ⟨K, ev⟩ := ih (u / 2) (by omega) (x + x) o (by omega)
        refine ⟨K + 1, fun k hk => ?_⟩
        obtain ⟨m, rfl⟩ : ∃ m, k = m + 1 := ⟨k - 1, by omega⟩
        simp only [sequiturref01_Times.l0]
        rw [if_pos (by omega), hm, if_neg (by omega), Plus_eq]
        simp only [Option.bind_some]
        rw [hw, ev m (by omega), hx, show u % 2 = 0 by omega]; rfl

theorem Times_ev {a b : Int} (h1 : -9223372036854775808 ≤ a) (h2 : a ≤ 9223372036854775807) (h3 : -9223372036854775808 ≤ b) (h4 : b ≤ 9223372036854775807) :
    ∃ K, ∀ k, K ≤ k → sequiturref01_Times.f k a b = some (hiW (a * b), loW (a * b)) := by
  by_cases hb : b < 0
  · obtain ⟨K, ev⟩ := Times_l0 b.natAbs (-a) 0 (by omega)
    refine ⟨K + 1, fun k hk => ?_⟩
    obtain ⟨m, rfl⟩ : ∃ m, k = m + 1 := ⟨k - 1, by omega⟩
    unfold sequiturref01_Times.f
    rw [Of_eq h1 h2]
    simp only [Option.bind_some]
    rw [if_pos hb, Minus_eq]
    simp only [Option.bind_some, sequiturref01_Times.j0]
    rw [Far_eq h3 h4]
    simp only [Option.bind_some]
    have e : (0:Int) + (b.natAbs : Int) * -a = a * b := by
      rw [show (b.natAbs : Int) = -b by omega, Int.neg_mul_neg, Int.mul_comm]; omega
    rw [← e]
    have := ev m (by omega)
    rw [hiW0, loW0] at this
    exact this
  · obtain ⟨K, ev⟩ := Times_l0 b.natAbs a 0 (by omega)
    refine ⟨K + 1, fun k hk => ?_⟩
    obtain ⟨m, rfl⟩ : ∃ m, k = m + 1 := ⟨k - 1, by omega⟩
    unfold sequiturref01_Times.f
    rw [Of_eq h1 h2]
    simp only [Option.bind_some]
    rw [if_neg hb]
    simp only [sequiturref01_Times.j0]
    rw [Far_eq h3 h4]
    simp only [Option.bind_some]
    have e : (0:Int) + (b.natAbs : Int) * a = a * b := by
      rw [show (b.natAbs : Int) = b by omega, Int.mul_comm]; omega
    rw [← e]
    have := ev m (by omega)
    rw [hiW0, loW0] at this
    exact this
theorem mul_small {a b : Int} (h1 : -9223372036854775808 ≤ a) (h2 : a ≤ 9223372036854775807) (h3 : -9223372036854775808 ≤ b) (h4 : b ≤ 9223372036854775807) : -85070591730234615865843651857942052864 ≤ a * b ∧ a * b ≤ 85070591730234615865843651857942052864 := by
  have h := abs_mul_lt h1 h2 h3 h4
  rw [← Int.natAbs_mul] at h
  omega

/-! ### PureNumBezouts -/
theorem wrap_congr {a b : Int} (h : a % 18446744073709551616 = b % 18446744073709551616) : wrap64 a = wrap64 b := by unfold wrap64; omega
theorem wrap_mod (a : Int) : wrap64 a % 18446744073709551616 = a % 18446744073709551616 := by unfold wrap64; omega
theorem wrap_step (X q U : Int) : wrap64 (wrap64 X - wrap64 (wrap64 q * wrap64 U)) = wrap64 (X - q * U) := by
  apply wrap_congr
  rw [Int.sub_emod, wrap_mod, wrap_mod, Int.mul_emod, wrap_mod, wrap_mod, ← Int.mul_emod, ← Int.sub_emod]

structure BInv (A B r s : Nat) (X Y U V : Int) : Prop where
  lt : s < r
  gcd : Nat.gcd r s = Nat.gcd A B
  e1 : (A:Int) * X + B * Y = r
  e2 : (A:Int) * U + B * V = s
  det : X * V - Y * U = 1 ∨ X * V - Y * U = -1
  sx : (0 ≤ X ∧ U ≤ 0) ∨ (X ≤ 0 ∧ 0 ≤ U)
  sy : (0 ≤ Y ∧ V ≤ 0) ∨ (Y ≤ 0 ∧ 0 ≤ V)
  bB : U.natAbs * r + X.natAbs * s = B
  bA : V.natAbs * r + Y.natAbs * s = A
  lX : X.natAbs ≤ U.natAbs
  lY : Y.natAbs ≤ max 1 V.natAbs

theorem opp_abs {X U : Int} (q : Nat) (h : (0 ≤ X ∧ U ≤ 0) ∨ (X ≤ 0 ∧ 0 ≤ U)) : (X - q * U).natAbs = X.natAbs + q * U.natAbs ∧ ((0 ≤ U ∧ X - q * U ≤ 0) ∨ (U ≤ 0 ∧ 0 ≤ X - q * U)) := by
  have hn : ((q:Int) * U).natAbs = q * U.natAbs := by rw [Int.natAbs_mul]; rfl
  rcases h with ⟨h1, h2⟩ | ⟨h1, h2⟩
  · have hp : (q:Int) * U ≤ 0 := Int.mul_nonpos_of_nonneg_of_nonpos (Int.natCast_nonneg q) h2
    rw [← hn]
    generalize (q:Int) * U = p at *
    exact ⟨by omega, .inr ⟨h2, by omega⟩⟩
  · have hp : 0 ≤ (q:Int) * U := Int.mul_nonneg (Int.natCast_nonneg q) h2
    rw [← hn]
    generalize (q:Int) * U = p at *
    exact ⟨by omega, .inl ⟨h2, by omega⟩⟩

theorem rearr (a b c d : Nat) (q : Nat) (r s : Nat) (h : a * r + b * s = c) (hr : r = q * s + d) : (b + q * a) * s + a * d = c := by
  rw [← h, hr, Nat.add_mul, Nat.mul_add, Nat.mul_comm q a, Nat.mul_assoc]; omega

theorem BInv_step {A B r s : Nat} {X Y U V : Int} (h : BInv A B r s X Y U V) (hs : s ≠ 0) : BInv A B s (r % s) U V (X - (r / s : Nat) * U) (Y - (r / s : Nat) * V) := by
  have hr : r = r / s * s + r % s := by rw [Nat.mul_comm]; exact (Nat.div_add_mod r s).symm
  have hq : 1 ≤ r / s := (Nat.one_le_div_iff (by omega)).2 (Nat.le_of_lt h.lt)
  obtain ⟨ux, sx'⟩ := opp_abs (r / s) h.sx
  obtain ⟨uy, sy'⟩ := opp_abs (r / s) h.sy
  have hri : (r : Int) = (r / s : Nat) * s + (r % s : Nat) := by rw [← Int.natCast_mul, ← Int.natCast_add, ← hr]
  generalize r / s = q at *
  have hmd : r % s < s := Nat.mod_lt _ (by omega)
  have hg : Nat.gcd s (r % s) = Nat.gcd r s := by rw [Nat.gcd_comm r s, Nat.gcd_rec s r, Nat.gcd_comm]
  generalize r % s = d at *
  have m1 : q * U.natAbs ≥ U.natAbs := Nat.le_mul_of_pos_left _ hq
  have m2 : q * V.natAbs ≥ V.natAbs := Nat.le_mul_of_pos_left _ hq
  refine ⟨hmd, hg.trans h.gcd, h.e2, ?_, ?_, sx', sy', ?_, ?_, ?_, ?_⟩
  · have h1 := h.e1
    have h2 := h.e2
    rw [Int.mul_sub, Int.mul_sub]
    have e1 : (A:Int) * (q * U) = q * (A * U) := by rw [← Int.mul_assoc, Int.mul_comm (A:Int), Int.mul_assoc]
    have e2 : (B:Int) * (q * V) = q * (B * V) := by rw [← Int.mul_assoc, Int.mul_comm (B:Int), Int.mul_assoc]
    have e3 : (q:Int) * s = q * (A * U) + q * (B * V) := by rw [← h2, Int.mul_add]
    omega
  · have h1 := h.det
    rw [Int.mul_sub, Int.mul_sub]
    have e1 : U * ((q:Int) * V) = V * (q * U) := by rw [Int.mul_left_comm U, Int.mul_left_comm V, Int.mul_comm U V]
    have e2 : U * Y = Y * U := Int.mul_comm _ _
    have e3 : V * X = X * V := Int.mul_comm _ _
    omega
  · rw [ux]; exact rearr _ _ _ _ _ _ _ h.bB hr
  · rw [uy]; exact rearr _ _ _ _ _ _ _ h.bA hr
  · rw [ux]; omega
  · rw [uy]; omega

/-- What the coefficients are at the end. -/
structure BEnd (A B : Nat) (X Y : Int) : Prop where
  e : (A:Int) * X + B * Y = (Nat.gcd A B : Nat)
  x : X.natAbs ≤ max 1 B
  y : Y.natAbs ≤ max 1 A
  x1 : X.natAbs < 9223372036854775808
  y1 : Y.natAbs < 9223372036854775808

theorem det_small {X Y U V : Int} (h : X * V - Y * U = 1 ∨ X * V - Y * U = -1) (h1 : X.natAbs = 9223372036854775808) (h2 : U.natAbs = 9223372036854775808) : False := by
  have hX : X = 9223372036854775808 ∨ X = -9223372036854775808 := by omega
  have hU : U = 9223372036854775808 ∨ U = -9223372036854775808 := by omega
  rcases hX with rfl | rfl <;> rcases hU with rfl | rfl <;> omega

theorem BInv_end {A B r : Nat} {X Y U V : Int} (hA : A ≤ 9223372036854775808) (hB : B ≤ 9223372036854775808) (h : BInv A B r 0 X Y U V) : BEnd A B X Y := by
  have hr := h.lt
  have hg := h.gcd
  rw [Nat.gcd_zero_right] at hg
  have bB := h.bB
  have bA := h.bA
  rw [Nat.mul_zero, Nat.add_zero] at bB bA
  have u1 : U.natAbs ≤ B := by rw [← bB]; exact Nat.le_mul_of_pos_right _ hr
  have v1 : V.natAbs ≤ A := by rw [← bA]; exact Nat.le_mul_of_pos_right _ hr
  have lX := h.lX
  have lY := h.lY
  refine ⟨by rw [← hg]; exact h.e1, by omega, by omega, ?_, ?_⟩
  · rcases Nat.lt_or_ge X.natAbs 9223372036854775808 with q | q
    · exact q
    · exact (det_small h.det (by omega) (by omega)).elim
  · rcases Nat.lt_or_ge Y.natAbs 9223372036854775808 with q | q
    · exact q
    · have hd := h.det
      refine (det_small (X := Y) (Y := X) (U := V) (V := U) ?_ (by omega) (by omega)).elim
      omega

/-- The coefficients with the numbers' signs. -/
def sg (n : Int) (x : Int) : Int := if n < 0 then -x else x
theorem turned_eq (n x : Int) (h : x.natAbs < 9223372036854775808) : num_turned.f x (decide (n < 0)) = some (sg n x) := by
  unfold num_turned.f sg
  by_cases e : n < 0
  · rw [decide_eq_true e, if_pos rfl, if_pos e, w64 (by omega) (by omega)]
  · rw [decide_eq_false e, if_neg (by simp), if_neg e]

theorem bez_l0 (a b : Int) (g : Int) (h1 : -9223372036854775808 ≤ a) (h2 : a ≤ 9223372036854775807) (h3 : -9223372036854775808 ≤ b) (h4 : b ≤ 9223372036854775807) :
    ∀ (n s r : Nat) (X Y U V : Int), s < n → r ≤ 9223372036854775808 → BInv a.natAbs b.natAbs r s X Y U V →
    ∃ X' Y', BEnd a.natAbs b.natAbs X' Y' ∧ ∃ K, ∀ k, K ≤ k → num_Bezout.l0 k a b g r s (wrap64 X) (wrap64 Y) (wrap64 U) (wrap64 V) = some (g, sg a X', sg b Y', true) := by
  intro n
  induction n with
  | zero => intro s r X Y U V hs; omega
  | succ n ih =>
    intro s r X Y U V hs hr h
    by_cases h0 : s = 0
    · subst h0
      have he := BInv_end (by omega) (by omega) h
      refine ⟨X, Y, he, 1, fun k hk => ?_⟩
      obtain ⟨m, rfl⟩ : ∃ m, k = m + 1 := ⟨k - 1, by omega⟩
      have hx := he.x1
      have hy := he.y1
      simp only [num_Bezout.l0]
      rw [if_pos (by omega), show wrap64 X = X from w64 (by omega) (by omega), show wrap64 Y = Y from w64 (by omega) (by omega), turned_eq a X hx, turned_eq b Y hy]; rfl
    · have hst := BInv_step h h0
      have hlt : r % s < s := Nat.mod_lt _ (by omega)
      have hls := h.lt
      have hqle : r / s ≤ r := Nat.div_le_self _ _
      obtain ⟨X', Y', he, K, ev⟩ := ih (r % s) s U V _ _ (by omega) (by omega) hst
      refine ⟨X', Y', he, K + 1, fun k hk => ?_⟩
      obtain ⟨m, rfl⟩ : ∃ m, k = m + 1 := ⟨k - 1, by omega⟩
      simp only [num_Bezout.l0]
      rw [if_neg (by omega), tdiv_nat, tmod_nat, u64w, mod64 (r / s) (by omega), wrap_step, wrap_step]
      exact ev m (by omega)

theorem bez_start (a b : Int) (g : Int) (h1 : -9223372036854775808 ≤ a) (h2 : a ≤ 9223372036854775807) (h3 : -9223372036854775808 ≤ b) (h4 : b ≤ 9223372036854775807) :
    ∃ X' Y', BEnd a.natAbs b.natAbs X' Y' ∧ ∃ K, ∀ k, K ≤ k → num_Bezout.l0 k a b g a.natAbs b.natAbs 1 0 0 1 = some (g, sg a X', sg b Y', true) := by
  by_cases h0 : b.natAbs = 0
  · refine ⟨1, 0, ⟨by rw [h0, Nat.gcd_zero_right]; simp, by simp; omega, by simp, by decide, by decide⟩, 1, fun k hk => ?_⟩
    obtain ⟨m, rfl⟩ : ∃ m, k = m + 1 := ⟨k - 1, by omega⟩
    simp only [num_Bezout.l0]
    rw [if_pos (by omega), turned_eq a 1 (by decide), turned_eq b 0 (by decide)]; rfl
  · have hA : a.natAbs ≤ 9223372036854775808 := by omega
    have hB : b.natAbs ≤ 9223372036854775808 := by omega
    have hdm := Nat.div_add_mod a.natAbs b.natAbs
    have hlt : a.natAbs % b.natAbs < b.natAbs := Nat.mod_lt _ (by omega)
    have hql := Nat.div_le_self a.natAbs b.natAbs
    have hg : Nat.gcd b.natAbs (a.natAbs % b.natAbs) = Nat.gcd a.natAbs b.natAbs := by rw [Nat.gcd_comm a.natAbs b.natAbs, Nat.gcd_rec b.natAbs a.natAbs, Nat.gcd_comm]
    have hdi : (a.natAbs : Int) = b.natAbs * (a.natAbs / b.natAbs : Nat) + (a.natAbs % b.natAbs : Nat) := by rw [← Int.natCast_mul, ← Int.natCast_add, hdm]
    have hinv : BInv a.natAbs b.natAbs b.natAbs (a.natAbs % b.natAbs) 0 1 1 (-((a.natAbs / b.natAbs : Nat) : Int)) := by
      refine ⟨hlt, hg, by omega, ?_, .inr (by omega), .inr ⟨by omega, by omega⟩, .inl ⟨by omega, Int.neg_nonpos_of_nonneg (Int.natCast_nonneg _)⟩, by simp, ?_, by simp, ?_⟩
      · rw [Int.mul_neg]; omega
      · have : (-((a.natAbs / b.natAbs : Nat) : Int)).natAbs = a.natAbs / b.natAbs := by rw [Int.natAbs_neg]; rfl
        rw [this, Nat.mul_comm]
        show _ + 1 * _ = _
        omega
      · show 1 ≤ _
        omega
    obtain ⟨X', Y', he, K, ev⟩ := bez_l0 a b g h1 h2 h3 h4 _ _ b.natAbs _ _ _ _ (Nat.lt_succ_self _) hB hinv
    refine ⟨X', Y', he, K + 1, fun k hk => ?_⟩
    obtain ⟨m, rfl⟩ : ∃ m, k = m + 1 := ⟨k - 1, by omega⟩
    have e := ev m (by omega)
    simp only [num_Bezout.l0]
    rw [if_neg (by omega), tdiv_nat, tmod_nat, u64w, mod64 (a.natAbs / b.natAbs) (by omega)]
    have s1 := wrap_step 1 ((a.natAbs / b.natAbs : Nat) : Int) 0
    have s2 := wrap_step 0 ((a.natAbs / b.natAbs : Nat) : Int) 1
    have w0 : wrap64 0 = 0 := by unfold wrap64; omega
    have w1 : wrap64 1 = 1 := by unfold wrap64; omega
    rw [w0, w1] at s1 s2
    rw [s1, s2]
    rw [w0, w1] at e
    rw [show (1:Int) - ((a.natAbs / b.natAbs : Nat) : Int) * 0 = 1 by omega, show (0:Int) - ((a.natAbs / b.natAbs : Nat) : Int) * 1 = -((a.natAbs / b.natAbs : Nat) : Int) by omega, w1]
    exact e

theorem sg_mul (a X : Int) : a * sg a X = (a.natAbs : Int) * X := by
  unfold sg
  split
  · rw [show (a.natAbs : Int) = -a by omega, Int.mul_neg, Int.neg_mul]
  · rw [show (a.natAbs : Int) = a by omega]
theorem sg_abs (a X : Int) : (sg a X).natAbs = X.natAbs := by unfold sg; split <;> omega

theorem le_mx {x y : Nat} {z : Int} (h : x ≤ max 1 y) (e : z.natAbs = x) : (z.natAbs : Int) ≤ mx 1 (y : Int) := by
  rw [e]; unfold mx; split <;> omega
theorem NumBezouts : sequiturlaw01_NumBezouts.Pure := by
  intro a b ha hb
  obtain ⟨h1, h2⟩ := wf64 ha
  obtain ⟨h3, h4⟩ := wf64 hb
  obtain ⟨G, evG⟩ := goes_ev
  have hI : I64 [a, b] := by
    intro x hx
    simp at hx
    rcases hx with rfl | rfl
    · exact ⟨h1, h2⟩
    · exact ⟨h3, h4⟩
  obtain ⟨K1, ev1⟩ := Gcd_ev [a, b] (by simp) hI
  obtain ⟨K2, ev2⟩ := refGcd_ev [a, b] (by simp) hI
  have hL : gcdL [a, b] 0 = Nat.gcd a.natAbs b.natAbs := by simp [gcdL]
  rw [hL] at ev1 ev2
  by_cases hg : Nat.gcd a.natAbs b.natAbs ≤ 9223372036854775807
  · have hf : fit (Nat.gcd a.natAbs b.natAbs) = (((Nat.gcd a.natAbs b.natAbs : Nat) : Int), true) := by unfold fit; rw [if_pos hg]
    rw [hf] at ev1 ev2
    obtain ⟨X, Y, he, K3, ev3⟩ := bez_start a b (Nat.gcd a.natAbs b.natAbs : Nat) h1 h2 h3 h4
    have x1 := he.x1
    have y1 := he.y1
    have x2 := he.x
    have y2 := he.y
    have sx := sg_abs a X
    have sy := sg_abs b Y
    obtain ⟨K4, ev4⟩ := Times_ev (a := a) (b := sg a X) h1 h2 (by omega) (by omega)
    obtain ⟨K5, ev5⟩ := Times_ev (a := b) (b := sg b Y) h3 h4 (by omega) (by omega)
    have hz : ∀ M, max (max G K1) (max (max K2 K3) (max K4 K5)) ≤ M → sequiturlaw01_NumBezouts.f (M + 1) a b = some true := by
      intro M hM
      have eB : num_Bezout.f (M + 1) a b = some (((Nat.gcd a.natAbs b.natAbs : Nat) : Int), sg a X, sg b Y, true) := by
        unfold num_Bezout.f
        rw [ev1 _ (by omega)]
        simp only [Option.bind_some, if_true]
        rw [size_eq h1 h2, size_eq h3 h4]
        simp only [Option.bind_some]
        exact ev3 _ (by omega)
      unfold sequiturlaw01_NumBezouts.f
      rw [eB, ev2 _ (by omega)]
      simp only [Option.bind_some, bne_self_eq_false, Bool.false_eq_true, if_false, sequiturlaw01_NumBezouts.j0, if_true]
      rw [ev4 _ (by omega), ev5 _ (by omega)]
      simp only [Option.bind_some]
      rw [Plus_eq]
      simp only [Option.bind_some]
      rw [sg_mul, sg_mul, he.e, Fits_eq _ (by omega) (by omega)]
      have : fitI ((Nat.gcd a.natAbs b.natAbs : Nat) : Int) = (((Nat.gcd a.natAbs b.natAbs : Nat) : Int), true) := by unfold fitI; rw [if_pos ⟨by omega, by omega⟩]
      rw [this]
      simp only [Option.bind_some, if_true]
      rw [Far_eq (a := sg a X) (by omega) (by omega), Far_eq h3 h4, Far_eq (a := sg b Y) (by omega) (by omega), Far_eq h1 h2]
      simp only [Option.bind_some]
      rw [if_pos (le_mx x2 sx), if_pos (le_mx y2 sy), evG M (Nat.le_trans (Nat.le_trans (Nat.le_max_left _ _) (Nat.le_max_left _ _)) hM)]; rfl
    exact ⟨_, hz _ (Nat.le_refl _)⟩
  · have hf : fit (Nat.gcd a.natAbs b.natAbs) = (0, false) := by unfold fit; rw [if_neg hg]
    rw [hf] at ev1 ev2
    have hz : ∀ M, max (max G K1) K2 ≤ M → sequiturlaw01_NumBezouts.f (M + 1) a b = some true := by
      intro M hM
      have eB : num_Bezout.f (M + 1) a b = some (0, 0, 0, false) := by
        unfold num_Bezout.f
        rw [ev1 _ (by omega)]; rfl
      unfold sequiturlaw01_NumBezouts.f
      rw [eB, ev2 _ (by omega)]
      simp only [Option.bind_some, bne_self_eq_false, Bool.false_eq_true, if_false, sequiturlaw01_NumBezouts.j0, if_true]
      rw [evG _ (by omega)]; rfl
    exact ⟨_, hz _ (Nat.le_refl _)⟩

end Go.Proofs.Ytdglmjhhlnhelaa.Pure
