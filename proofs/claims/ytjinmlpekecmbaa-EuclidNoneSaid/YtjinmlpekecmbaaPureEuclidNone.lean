/- A system without a solution has a witness, which checks, and no witness of a solved system checks (asked of at most 80 forms of at most 80 monomials, any number of variables, at most 100 numbers, any div). -/
import Derived.Test.YtjinmlpekecmbaaPEuclidNonex
import Derived.Laws.BitsAllLaws
import Derived.Deep.Slices
import Derived.ChangeSame
import Derived.KernelRfl
import Derived.OpenShut
namespace Go.Proofs.Ytjinmlpekecmbaa.Pure
open Go.RowKit Go.Proofs.Ytjinmlpekecmbaa.PEuclidNone Go.Proofs.YtjinmlpekecmbaaW.PrintWords Go.Proofs.YtjinmlpekecmbaaW.PrintLast
set_option linter.unusedVariables false
set_option linter.unusedSimpArgs false
/-- A number, if it fits. -/
def fitI (n : Int) : Int × Bool := if -9223372036854775808 ≤ n ∧ n ≤ 9223372036854775807 then (n, true) else (0, false)
theorem abs_mul_lt {a b : Int} (h1 : -9223372036854775808 ≤ a) (h2 : a ≤ 9223372036854775807) (h3 : -9223372036854775808 ≤ b) (h4 : b ≤ 9223372036854775807) : a.natAbs * b.natAbs ≤ 85070591730234615865843651857942052864 :=
  Nat.le_trans (Nat.mul_le_mul (show a.natAbs ≤ 9223372036854775808 by omega) (show b.natAbs ≤ 9223372036854775808 by omega)) (by decide)
theorem odd_coprime_two {a : Nat} (h : a % 2 = 1) : Nat.Coprime a 2 := by
  have h1 : Nat.gcd a 2 ∣ 2 := Nat.gcd_dvd_right a 2
  have h2 : Nat.gcd a 2 ∣ a := Nat.gcd_dvd_left a 2
  have h3 : Nat.gcd a 2 ≤ 2 := Nat.le_of_dvd (by omega) h1
  have h4 : Nat.gcd a 2 ≠ 0 := fun e => by rw [e] at h1; simp at h1
  have h5 : Nat.gcd a 2 ≠ 2 := fun e => by rw [e] at h2; omega
  show Nat.gcd a 2 = 1
  omega
theorem gcd_odd_pow {a : Nat} (h : a % 2 = 1) (t b : Nat) : Nat.gcd a (2 ^ t * b) = Nat.gcd a b :=
  Nat.Coprime.gcd_mul_left_cancel_right b ((odd_coprime_two h).pow_right t).symm
theorem gcd_two_parts {oa ob ta tb : Nat} (ha : oa % 2 = 1) (hb : ob % 2 = 1) :
    Nat.gcd (2 ^ ta * oa) (2 ^ tb * ob) = Nat.gcd oa (2 ^ tb * ob) * 2 ^ min ta tb := by
  rw [gcd_odd_pow ha]
  rcases Nat.le_total ta tb with h | h
  · obtain ⟨d, rfl⟩ := Nat.exists_eq_add_of_le h
    rw [Nat.min_eq_left h, Nat.pow_add, Nat.mul_assoc, Nat.gcd_mul_left, gcd_odd_pow ha, Nat.mul_comm]
  · obtain ⟨d, rfl⟩ := Nat.exists_eq_add_of_le h
    rw [Nat.min_eq_right h, Nat.pow_add, Nat.mul_assoc, Nat.gcd_mul_left, Nat.gcd_comm, gcd_odd_pow hb, Nat.mul_comm, Nat.gcd_comm]
-- one round of the halving: x odd, y = 2^t * z, z odd
theorem gcd_round {x z t : Nat} (hx : x % 2 = 1) : Nat.gcd x (2 ^ t * z) = if z < x then Nat.gcd z (x - z) else Nat.gcd x (z - x) := by
  rw [gcd_odd_pow hx]
  split
  · rename_i h; rw [Nat.gcd_comm, Nat.gcd_sub_self_right (by omega)]
  · rename_i h; rw [Nat.gcd_sub_self_right (by omega)]
theorem mul64 (a b : Nat) (ha : a < 18446744073709551616) (hb : b < 18446744073709551616) :
    ((a / 4294967296) * (b / 4294967296) +
      ((a / 4294967296) * (b % 4294967296) + ((a % 4294967296) * (b % 4294967296)) / 4294967296) / 4294967296 +
      ((((a / 4294967296) * (b % 4294967296) + ((a % 4294967296) * (b % 4294967296)) / 4294967296) % 4294967296) + (a % 4294967296) * (b / 4294967296)) / 4294967296) = a * b / 18446744073709551616 := by
  have hab : a * b = (a / 4294967296) * (b / 4294967296) * 18446744073709551616 + ((a / 4294967296) * (b % 4294967296) + (a % 4294967296) * (b / 4294967296)) * 4294967296 + (a % 4294967296) * (b % 4294967296) := by
    have e1 : a = (a / 4294967296) * 4294967296 + a % 4294967296 := by omega
    have e2 : b = (b / 4294967296) * 4294967296 + b % 4294967296 := by omega
    generalize a / 4294967296 = x at *
    generalize a % 4294967296 = y at *
    generalize b / 4294967296 = u at *
    generalize b % 4294967296 = v at *
    subst e1 e2
    simp only [Nat.add_mul, Nat.mul_add]
    have : x * 4294967296 * (u * 4294967296) = x * u * 18446744073709551616 := by rw [Nat.mul_mul_mul_comm]
    have h2 : x * 4294967296 * v = x * v * 4294967296 := by rw [Nat.mul_right_comm]
    have h3 : y * (u * 4294967296) = y * u * 4294967296 := by rw [Nat.mul_assoc]
    omega
  rw [hab]
  generalize (a / 4294967296) * (b / 4294967296) = p
  generalize (a / 4294967296) * (b % 4294967296) = q
  generalize (a % 4294967296) * (b / 4294967296) = r
  generalize (a % 4294967296) * (b % 4294967296) = s
  omega
theorem u64w (n : Int) : IntKind.u64.wrap n = n % 18446744073709551616 := by
  simp [IntKind.wrap, IntKind.bits, IntKind.signed]
theorem wf64 {a : Int} (h : (Lit.int .i64 a).wf = true) : -9223372036854775808 ≤ a ∧ a ≤ 9223372036854775807 := by
  simpa [Lit.wf, IntKind.min, IntKind.max, IntKind.signed, IntKind.bits] using h
theorem w64 {n : Int} (h1 : -9223372036854775808 ≤ n) (h2 : n ≤ 9223372036854775807) : wrap64 n = n := by
  unfold wrap64; omega
theorem size_eq {a : Int} (h1 : -9223372036854775808 ≤ a) (h2 : a ≤ 9223372036854775807) : num_size.f a = some (a.natAbs : Int) := by
  unfold num_size.f
  simp only [u64w]
  split <;> congr 1 <;> omega
theorem shr_nat (n i : Nat) (hi : i ≤ 64) : shr .u64 (n:Int) (i:Int) = ((n / 2^i : Nat) : Int) := by
  unfold shr
  simp only [IntKind.bits, Int.toNat_natCast, Nat.min_eq_left hi]
  simp
theorem and_one (x : Nat) (h : x < 18446744073709551616) : Go.bits .and .u64 (x:Int) 1 = ((x % 2 : Nat) : Int) := by
  have := u64_and_nat x 1 h (by decide)
  simpa [Nat.and_one_is_mod] using this
theorem twos_l0 (n : Nat) (hn : 0 < n) (h : n < 18446744073709551616) : ∀ (d i : Nat), 64 - i = d → i < 64 → 2^i ∣ n →
    ∃ t : Nat, t < 64 ∧ 2^t ∣ n ∧ n / 2^t % 2 = 1 ∧ ∃ K, ∀ k, K ≤ k → num_twos.l0 k n i = some (t:Int) := by
  intro d
  induction d with
  | zero => intro i h1 h2; omega
  | succ d ih =>
    intro i h1 h2 h3
    have hlt : n / 2^i < 18446744073709551616 := Nat.lt_of_le_of_lt (Nat.div_le_self _ _) h
    by_cases e : n / 2^i % 2 = 1
    · refine ⟨i, h2, h3, e, 1, fun k hk => ?_⟩
      obtain ⟨m, rfl⟩ : ∃ m, k = m + 1 := ⟨k - 1, by omega⟩
      simp only [num_twos.l0]
      rw [if_pos (by omega), if_pos (by omega), shr_nat _ _ (by omega), and_one _ hlt, e]; rfl
    · obtain ⟨c, hc⟩ := h3
      have hp : 0 < 2^i := Nat.two_pow_pos i
      have hd : n / 2^i = c := by rw [hc]; exact Nat.mul_div_cancel_left _ hp
      obtain ⟨m, hm⟩ : ∃ m, c = 2 * m := ⟨c / 2, by omega⟩
      have hm0 : 0 < m := by
        rcases Nat.eq_zero_or_pos m with e | e
        · subst e; rw [hc, hm] at hn; simp at hn
        · exact e
      have hi : i + 1 < 64 := by
        rcases Nat.lt_or_ge (i+1) 64 with q | q
        · exact q
        · exfalso
          have : i = 63 := by omega
          subst this
          have : 2^63 * (2*1) ≤ n := by rw [hc, hm]; exact Nat.mul_le_mul_left _ (by omega)
          omega
      obtain ⟨t, a, b, c', ev⟩ := ih (i+1) (by omega) hi ⟨m, by rw [hc, hm, Nat.pow_succ, Nat.mul_assoc]⟩
      obtain ⟨K, ev⟩ := ev
      refine ⟨t, a, b, c', K + 1, fun k hk => ?_⟩
      obtain ⟨j, rfl⟩ : ∃ m, k = m + 1 := ⟨k - 1, by omega⟩
      simp only [num_twos.l0]
      rw [if_pos (by omega), if_pos (by omega), shr_nat _ _ (by omega), and_one _ hlt, if_neg (by omega), w64 (by omega) (by omega)]
      exact ev j (by omega)
theorem twos_ev (n : Nat) (hn : 0 < n) (h : n < 18446744073709551616) :
    ∃ t z : Nat, n = 2^t * z ∧ z % 2 = 1 ∧ t < 64 ∧ ∃ K, ∀ k, K ≤ k → num_twos.f k n = some (t:Int) := by
  obtain ⟨t, h1, h2, h3, h4⟩ := twos_l0 n hn h 64 0 rfl (by omega) (by simp)
  obtain ⟨z, hz⟩ := h2
  refine ⟨t, z, hz, ?_, h1, h4⟩
  rw [hz, Nat.mul_div_cancel_left _ (Nat.two_pow_pos t)] at h3; exact h3
theorem mul_pow_div (t z : Nat) : 2^t * z / 2^t = z := Nat.mul_div_cancel_left _ (Nat.two_pow_pos t)
theorem le_mul_pow (t z : Nat) : z ≤ 2^t * z := Nat.le_mul_of_pos_left _ (Nat.two_pow_pos t)
theorem common_l0 (both : Nat) : ∀ (s x y : Nat), x + y ≤ s → x % 2 = 1 → x < 18446744073709551616 → y < 18446744073709551616 →
    ∃ K, ∀ k, K ≤ k → num_common.l0 k x y both = some (shl .u64 (Nat.gcd x y) both) := by
  intro s
  induction s with
  | zero => intro x y h1 h2; omega
  | succ s ih =>
    intro x y h1 hx hx2 hy2
    by_cases hy : y = 0
    · subst hy
      refine ⟨1, fun k hk => ?_⟩
      obtain ⟨m, rfl⟩ : ∃ m, k = m + 1 := ⟨k - 1, by omega⟩
      simp only [num_common.l0]
      rw [if_pos (by omega), if_pos (by omega), Nat.gcd_zero_right]
    · obtain ⟨t, z, e, hz, ht, K, ev⟩ := twos_ev y (by omega) hy2
      have hs : shr .u64 (y:Int) (t:Int) = (z:Int) := by rw [shr_nat _ _ (by omega), e, mul_pow_div]
      have hzy : z ≤ y := by rw [e]; exact le_mul_pow t z
      have hg := gcd_round (x := x) (z := z) (t := t) hx
      rw [← e] at hg
      by_cases hlt : z < x
      · rw [if_pos hlt] at hg
        obtain ⟨K', ev'⟩ := ih z (x - z) (by omega) hz (by omega) (by omega)
        refine ⟨max K K' + 1, fun k hk => ?_⟩
        obtain ⟨m, rfl⟩ : ∃ m, k = m + 1 := ⟨k - 1, by omega⟩
        simp only [num_common.l0]
        rw [if_neg (by omega), ev m (by omega)]
        simp only [Option.bind_some]
        rw [if_pos (by omega), hs, if_pos (by omega), u64w, hg, show ((x:Int) - z) % 18446744073709551616 = ((x - z : Nat) : Int) by omega]
        exact ev' m (by omega)
      · rw [if_neg hlt] at hg
        obtain ⟨K', ev'⟩ := ih x (z - x) (by omega) hx (by omega) (by omega)
        refine ⟨max K K' + 1, fun k hk => ?_⟩
        obtain ⟨m, rfl⟩ : ∃ m, k = m + 1 := ⟨k - 1, by omega⟩
        simp only [num_common.l0]
        rw [if_neg (by omega), ev m (by omega)]
        simp only [Option.bind_some]
        rw [if_pos (by omega), hs, if_neg (by omega), u64w, hg, show ((z:Int) - x) % 18446744073709551616 = ((z - x : Nat) : Int) by omega]
        exact ev' m (by omega)
theorem or_zero_left (b : Nat) (h : b < 18446744073709551616) : Go.bits .or .u64 0 (b:Int) = (b:Int) := by
  have := u64_or_nat 0 b (by decide) h
  simpa using this
theorem or_zero_right (b : Nat) (h : b < 18446744073709551616) : Go.bits .or .u64 (b:Int) 0 = (b:Int) := by
  have := u64_or_nat b 0 h (by decide)
  simpa using this
theorem common_ev (a b : Nat) (ha : a < 18446744073709551616) (hb : b < 18446744073709551616) : ∃ K, ∀ k, K ≤ k → num_common.f k a b = some (Nat.gcd a b : Int) := by
  by_cases h0 : a = 0
  · subst h0
    refine ⟨1, fun k hk => ?_⟩
    obtain ⟨m, rfl⟩ : ∃ m, k = m + 1 := ⟨k - 1, by omega⟩
    unfold num_common.f
    simp [num_common.j0, or_zero_left b hb]
  by_cases h1 : b = 0
  · subst h1
    refine ⟨1, fun k hk => ?_⟩
    obtain ⟨m, rfl⟩ : ∃ m, k = m + 1 := ⟨k - 1, by omega⟩
    unfold num_common.f
    rw [if_neg (by omega)]
    simp [num_common.j0, or_zero_right a ha]
  obtain ⟨ta, oa, ea, hoa, hta, Ka, eva⟩ := twos_ev a (by omega) ha
  obtain ⟨tb, ob, eb, hob, htb, Kb, evb⟩ := twos_ev b (by omega) hb
  have hs : shr .u64 (a:Int) (ta:Int) = (oa:Int) := by rw [shr_nat _ _ (by omega), ea, mul_pow_div]
  have hle : oa ≤ a := by rw [ea]; exact le_mul_pow ta oa
  obtain ⟨K, ev⟩ := common_l0 (min ta tb) _ oa b (Nat.le_refl _) hoa (by omega) hb
  refine ⟨max (max Ka Kb) K + 1, fun k hk => ?_⟩
  obtain ⟨m, rfl⟩ : ∃ m, k = m + 1 := ⟨k - 1, by omega⟩
  unfold num_common.f
  rw [if_neg (by omega), show ((b:Int) == 0) = false from beq_eq_false_iff_ne.mpr (by omega)]
  simp only [num_common.j0]
  rw [if_neg (by simp), eva m (by omega)]
  simp only [Option.bind_some]
  rw [evb m (by omega)]
  simp only [Option.bind_some]
  rw [if_pos (by omega), hs, show mn (ta:Int) (tb:Int) = ((min ta tb : Nat) : Int) by unfold mn; split <;> omega, ev m (by omega)]
  congr 1
  unfold shl
  simp only [IntKind.bits, Int.toNat_natCast]
  rw [Nat.min_eq_left (show min ta tb ≤ 64 by omega), u64w]
  have hg := gcd_two_parts (ta := ta) (tb := tb) hoa hob
  rw [← ea, ← eb] at hg
  have hl : Nat.gcd a b ≤ a := Nat.gcd_le_left b (by omega)
  have : ((Nat.gcd oa b : Nat) : Int) * 2 ^ min ta tb = ((Nat.gcd a b : Nat) : Int) := by rw [hg]; simp
  rw [this]
  omega
theorem signed_ev (g : Nat) (h : g < 18446744073709551616) : num_signed.f g false = some (if g ≤ 9223372036854775807 then ((g:Int), true) else (0, false)) := by
  unfold num_signed.f num_told.f
  simp only [Bool.false_eq_true, if_false]
  by_cases e : g ≤ 9223372036854775807
  · rw [decide_eq_true (by omega), if_pos rfl, if_pos e, w64 (by omega) (by omega)]; rfl
  · rw [decide_eq_false (by omega), if_neg (by simp), if_neg e]; rfl
/-- The gcd of the sizes. -/
def gcdL (l : List Int) (g : Nat) : Nat := l.foldl (fun g n => Nat.gcd g n.natAbs) g
def fit (g : Nat) : Int × Bool := if g ≤ 9223372036854775807 then ((g:Int), true) else (0, false)
def I64 (l : List Int) : Prop := ∀ x ∈ l, -9223372036854775808 ≤ x ∧ x ≤ 9223372036854775807
theorem gcd_lt {a b : Nat} (ha : a < 18446744073709551616) (hb : b ≤ 9223372036854775808) : Nat.gcd a b < 18446744073709551616 := by
  rcases Nat.eq_zero_or_pos a with e | e
  · subst e; rw [Nat.gcd_zero_left]; omega
  · have := Nat.gcd_le_left b e; omega
theorem rd_at (l : List Int) (i : Nat) (h : i < l.length) : rd l (i:Int) = l[i] := by
  simp [rd, h]
theorem Gcd_l0 (l : List Int) (hl : l.length ≤ 9223372036854775806) (hx : I64 l) : ∀ (d i : Nat) (g : Nat), l.length - i = d → i ≤ l.length → g < 18446744073709551616 →
    ∃ K, ∀ k, K ≤ k → num_Gcd.l0 k g l (l.length:Int) i = some (fit (gcdL (l.drop i) g)) := by
  intro d
  induction d with
  | zero =>
    intro i g h1 h2 hg
    refine ⟨1, fun k hk => ?_⟩
    obtain ⟨m, rfl⟩ : ∃ m, k = m + 1 := ⟨k - 1, by omega⟩
    simp only [num_Gcd.l0]
    rw [if_neg (by omega), signed_ev g hg]
    rw [List.drop_eq_nil_of_le (by omega)]; rfl
  | succ d ih =>
    intro i g h1 h2 hg
    have hi : i < l.length := by omega
    have hxi := hx l[i] (List.getElem_mem hi)
    obtain ⟨K, ev⟩ := common_ev g l[i].natAbs hg (by omega)
    obtain ⟨K', ev'⟩ := ih (i+1) (Nat.gcd g l[i].natAbs) (by omega) (by omega) (gcd_lt hg (by omega))
    refine ⟨max K K' + 1, fun k hk => ?_⟩
    obtain ⟨m, rfl⟩ : ∃ m, k = m + 1 := ⟨k - 1, by omega⟩
    simp only [num_Gcd.l0]
    rw [if_pos (by omega), if_pos (by omega), if_pos (by omega), rd_at l i hi, size_eq hxi.1 hxi.2]
    simp only [Option.bind_some]
    rw [ev m (by omega)]
    simp only [Option.bind_some]
    rw [w64 (by omega) (by omega), List.drop_eq_getElem_cons hi]
    exact ev' m (by omega)
theorem Gcd_ev (l : List Int) (hl : l.length ≤ 9223372036854775806) (hx : I64 l) : ∃ K, ∀ k, K ≤ k → num_Gcd.f k l = some (fit (gcdL l 0)) := by
  have := Gcd_l0 l hl hx _ 0 0 rfl (by omega) (by omega)
  simp at this
  exact this
theorem gcdL_dvd (l : List Int) : ∀ g : Nat, gcdL l g ∣ g ∧ ∀ x ∈ l, gcdL l g ∣ x.natAbs := by
  induction l with
  | nil => intro g; exact ⟨Nat.dvd_refl _, by simp⟩
  | cons a l ih =>
    intro g
    obtain ⟨h1, h2⟩ := ih (Nat.gcd g a.natAbs)
    refine ⟨Nat.dvd_trans h1 (Nat.gcd_dvd_left _ _), fun x hx => ?_⟩
    rcases List.mem_cons.1 hx with e | e
    · subst e; exact Nat.dvd_trans h1 (Nat.gcd_dvd_right _ _)
    · exact h2 x e
/-- At all great fuels the same answer. -/
def Ev {α : Type} (f : Nat → Option α) (v : α) : Prop := ∃ K, ∀ k, K ≤ k → f k = some v
theorem Ev.now {α : Type} {f : Nat → Option α} {v : α} (h : ∀ k, f k = some v) : Ev f v := ⟨0, fun k _ => h k⟩
theorem Ev.succ {α : Type} {f : Nat → Option α} {v : α} (h : Ev (fun k => f (k + 1)) v) : Ev f v := by
  obtain ⟨K, h⟩ := h
  refine ⟨K + 1, fun k hk => ?_⟩
  obtain ⟨m, rfl⟩ : ∃ m, k = m + 1 := ⟨k - 1, by omega⟩
  exact h m (by omega)
theorem Ev.bind {α β : Type} {f : Nat → Option α} {g : Nat → α → Option β} {v : α} {u : β} (h : Ev f v) (h2 : Ev (fun k => g k v) u) : Ev (fun k => (f k).bind (g k)) u := by
  obtain ⟨K, h⟩ := h
  obtain ⟨K2, h2⟩ := h2
  refine ⟨max K K2, fun k hk => ?_⟩
  show (f k).bind (g k) = some u
  rw [h k (by omega)]
  exact h2 k (by omega)
theorem Ev.of {α : Type} {f g : Nat → Option α} {v : α} (h : Ev f v) (e : ∀ k, g k = f k) : Ev g v := by
  obtain ⟨K, h⟩ := h
  exact ⟨K, fun k hk => (e k).trans (h k hk)⟩
theorem Ev.at_ {α : Type} {f : Nat → Option α} {v : α} (h : Ev f v) : ∃ k, f k = some v := by
  obtain ⟨K, h⟩ := h
  exact ⟨K, h K (Nat.le_refl _)⟩
theorem Ev.mono {α : Type} {f : Nat → Option α} {v : α} (K : Nat) (hm : ∀ k, LeO (f k) (f (k + 1))) (h : f K = some v) : Ev f v := by
  refine ⟨K, fun k hk => ?_⟩
  obtain ⟨d, rfl⟩ := Nat.exists_eq_add_of_le hk
  induction d with
  | zero => exact h
  | succ d ih => exact hm (K + d) v (ih (by omega))
theorem Ev.val {α : Type} {f : Nat → Option α} {v u : α} (h : Ev f v) (e : v = u) : Ev f u := e ▸ h
theorem Ev.pos {α : Type} {c : Prop} [Decidable c] {f g : Nat → Option α} {v : α} (h : c) (hf : Ev f v) : Ev (fun k => if c then f k else g k) v := hf.of fun k => if_pos h
theorem Ev.neg {α : Type} {c : Prop} [Decidable c] {f g : Nat → Option α} {v : α} (h : ¬ c) (hf : Ev g v) : Ev (fun k => if c then f k else g k) v := hf.of fun k => if_neg h
theorem rdM_at (l : List S44) (i : Nat) (h : i < l.length) : rd_T44 l (i:Int) = l[i] := by simp [rd_T44, h]
theorem rdQ_at (l : List S41) (i : Nat) (h : i < l.length) : rd_T41 l (i:Int) = l[i] := by simp [rd_T41, h]
/-- Are the variables in order, of the 64, and no factor zero? -/
def rightL : Int → List S44 → Bool
  | _, [] => true
  | last, m :: l => decide (last < m.f0) && decide (m.f0 < 64) && decide (m.f1 ≠ 0) && rightL m.f0 l
theorem Right_l0 (l : List S44) (hl : l.length ≤ 9223372036854775807) : ∀ (d i : Nat) (last : Int), l.length - i = d → i ≤ l.length →
    Ev (fun k => lin_Right.l0 k last l (l.length:Int) i) (if rightL last (l.drop i) = true then 0 else 1) := by
  intro d
  induction d with
  | zero =>
    intro i last h1 h2
    refine Ev.succ (Ev.now fun k => ?_)
    simp only [lin_Right.l0]
    rw [if_neg (by omega), List.drop_eq_nil_of_le (by omega)]; rfl
  | succ d ih =>
    intro i last h1 h2
    have hi : i < l.length := by omega
    rw [List.drop_eq_getElem_cons hi]
    by_cases e : last < l[i].f0 ∧ l[i].f0 < 64 ∧ l[i].f1 ≠ 0
    · obtain ⟨e1, e2, e3⟩ := e
      refine Ev.succ (Ev.of (ih (i+1) l[i].f0 (by omega) (by omega)) fun k => ?_) |>.val ?_
      · simp only [lin_Right.l0]
        rw [if_pos (by omega), if_pos (by omega), if_pos (by omega), rdM_at l i hi, if_neg (by omega), if_neg (by omega), if_neg e3, w64 (by omega) (by omega)]; rfl
      · simp only [rightL, decide_eq_true e1, decide_eq_true e2, decide_eq_true e3, Bool.true_and]
    · refine Ev.succ (Ev.now fun k => ?_)
      have hr : rightL last (l[i] :: l.drop (i+1)) = false := by
        simp only [rightL, Bool.and_eq_false_iff, decide_eq_false_iff_not]
        omega
      rw [hr]
      simp only [lin_Right.l0]
      rw [if_pos (by omega), if_pos (by omega), if_pos (by omega), rdM_at l i hi]
      by_cases e1 : l[i].f0 ≤ last
      · rw [if_pos e1]; rfl
      by_cases e2 : l[i].f0 ≥ 64
      · rw [if_neg e1, if_pos e2]; rfl
      · rw [if_neg e1, if_neg e2, if_pos (by omega)]; rfl
theorem Right_ev (K : Int) (l : List S44) (hl : l.length ≤ 9223372036854775807) : Ev (fun k => lin_Right.f k K l) (if rightL (-1) l = true then 0 else 1) := by
  have := Right_l0 l hl _ 0 (-1) rfl (by omega)
  exact this
theorem iRight_ev (K : Int) (l : List S44) (b : Bool) (hl : l.length ≤ 9223372036854775807) : Ev (fun k => ineq_Right.f k K l b) (if rightL (-1) l = true then 0 else 1) :=
  Ev.bind (Right_ev K l hl) (Ev.now fun _ => rfl)
theorem right1_ev (K : Int) (l : List S44) (hl : l.length ≤ 9223372036854775807) : Ev (fun k => lin_right_1.f k K l) (!rightL (-1) l) :=
  Ev.bind (Right_ev K l hl) (Ev.now fun _ => by cases rightL (-1) l <;> rfl)
theorem idx_l0 (l : List S41) (hl : l.length ≤ 9223372036854775807) (hm : ∀ q ∈ l, q.f1.length ≤ 9223372036854775807) : ∀ (d i : Nat), l.length - i = d → i ≤ l.length →
    ∃ v, Ev (fun k => api_Lin_66.l0 k l (l.length:Int) i) v ∧ decide (v ≥ 0) = !((l.drop i).all fun q => rightL (-1) q.f1) := by
  intro d
  induction d with
  | zero =>
    intro i h1 h2
    refine ⟨-1, Ev.succ (Ev.now fun k => ?_), ?_⟩
    · simp only [api_Lin_66.l0]
      rw [if_neg (by omega)]
    · rw [List.drop_eq_nil_of_le (by omega)]; rfl
  | succ d ih =>
    intro i h1 h2
    have hi : i < l.length := by omega
    rw [List.drop_eq_getElem_cons hi]
    have hq := right1_ev l[i].f0 l[i].f1 (hm _ (List.getElem_mem hi))
    obtain ⟨v, ev, hv⟩ := ih (i+1) (by omega) (by omega)
    have hs : ∀ k, api_Lin_66.l0 (k+1) l (l.length:Int) i = (lin_right_1.f k l[i].f0 l[i].f1).bind fun t => if t = true then some (i:Int) else api_Lin_66.l0 k l (l.length:Int) ((i+1 : Nat) : Int) := by
      intro k
      simp only [api_Lin_66.l0]
      rw [if_pos (by omega), if_pos (by omega), if_pos (by omega), rdQ_at l i hi, w64 (by omega) (by omega)]; rfl
    by_cases e : rightL (-1) l[i].f1 = true
    · rw [e] at hq
      refine ⟨v, Ev.succ (Ev.of (Ev.bind hq ?_) hs), ?_⟩
      · exact Ev.of ev fun k => by simp
      · rw [hv, List.all_cons, e, Bool.true_and]
    · have e' : rightL (-1) l[i].f1 = false := by simpa using e
      rw [e'] at hq
      refine ⟨i, Ev.succ (Ev.of (Ev.bind hq ?_) hs), ?_⟩
      · exact Ev.now fun k => by simp
      · rw [List.all_cons, e']; simp
theorem linright_ev (l : List S41) (hl : l.length ≤ 9223372036854775807) (hm : ∀ q ∈ l, q.f1.length ≤ 9223372036854775807) : Ev (fun k => lin_right.f k l) (l.all fun q => rightL (-1) q.f1) := by
  obtain ⟨v, ev, hv⟩ := idx_l0 l hl hm _ 0 rfl (by omega)
  rw [List.drop_zero] at hv
  refine Ev.bind (v := decide (v ≥ 0)) (Ev.bind ev (Ev.now fun _ => rfl)) (Ev.now fun _ => ?_)
  rw [hv]; simp
theorem rightL_mem : ∀ (l : List S44) (last : Int), rightL last l = true → ∀ m ∈ l, last < m.f0 ∧ m.f0 < 64 ∧ m.f1 ≠ 0 := by
  intro l
  induction l with
  | nil => intro last _ m hm; cases hm
  | cons a l ih =>
    intro last h m hm
    simp only [rightL, Bool.and_eq_true, decide_eq_true_eq] at h
    rcases List.mem_cons.1 hm with e | e
    · subst e; exact ⟨h.1.1.1, h.1.1.2, h.1.2⟩
    · have := ih a.f0 h.2 m e; omega
theorem rightL_len : ∀ (l : List S44) (last : Int), last ≤ 63 → rightL last l = true → (l.length : Int) ≤ 63 - last := by
  intro l
  induction l with
  | nil => intro last h _; simp; omega
  | cons a l ih =>
    intro last h0 h
    simp only [rightL, Bool.and_eq_true, decide_eq_true_eq] at h
    have := ih a.f0 (by omega) h.2
    simp only [List.length_cons]; omega
/-- The monomials' ranges. -/
def M64 (l : List S44) : Prop := ∀ m ∈ l, (-9223372036854775808 ≤ m.f0 ∧ m.f0 ≤ 9223372036854775807) ∧ -9223372036854775808 ≤ m.f1 ∧ m.f1 ≤ 9223372036854775807
def R64 (n : Int) : Prop := -9223372036854775808 ≤ n ∧ n ≤ 9223372036854775807
theorem in64_of {n : Int} (h : R64 n) : in64 n = true := by
  simp only [in64, Bool.and_eq_true, decide_eq_true_eq]; exact h
theorem rd_R64 {x : List Int} (hx : I64 x) (i : Int) : R64 (rd x i) := by
  unfold rd
  by_cases h : i.toNat < x.length
  · rw [List.getD_eq_getElem?_getD, List.getElem?_eq_getElem h]; exact hx _ (List.getElem_mem h)
  · rw [List.getD_eq_getElem?_getD, List.getElem?_eq_none (by omega)]; exact ⟨by simp, by simp⟩
theorem mul_R64 {a b : Int} (ha : R64 a) (hb : R64 b) : -85070591730234615865843651857942052864 ≤ a * b ∧ a * b ≤ 85070591730234615865843651857942052864 := by
  have h := abs_mul_lt ha.1 ha.2 hb.1 hb.2
  rw [← Int.natAbs_mul] at h
  omega
theorem wrap192_id {s : Int} (h1 : -3138550867693340381917894711603833208051177722232017256448 ≤ s) (h2 : s < 3138550867693340381917894711603833208051177722232017256448) : wrap192 s = s := by
  unfold wrap192; omega
instance instR64 (n : Int) : Decidable (R64 n) := inferInstanceAs (Decidable (_ ∧ _))
def evalStep (x : List Int) (s : Int) (m : S44) : Int := if m.f0 < (x.length : Int) then s + m.f1 * rd x m.f0 else s
theorem evalFold_add (x : List Int) : ∀ (l : List S44) (s : Int), l.foldl (evalStep x) s = s + l.foldl (evalStep x) 0 := by
  intro l
  induction l with
  | nil => intro s; simp
  | cons a l ih =>
    intro s
    simp only [List.foldl_cons]
    rw [ih (evalStep x s a), ih (evalStep x 0 a)]
    unfold evalStep; split <;> omega
/-! Sums of the 64 variables' parts. -/
def sg : Nat → (Nat → Int) → Int
  | 0, _ => 0
  | n + 1, f => sg n f + f n
theorem sg_congr {n : Nat} {f g : Nat → Int} (h : ∀ i, i < n → f i = g i) : sg n f = sg n g := by
  induction n with
  | zero => rfl
  | succ n ih => simp only [sg]; rw [ih (fun i hi => h i (by omega)), h n (by omega)]
theorem sg_add (n : Nat) (f g : Nat → Int) : sg n (fun i => f i + g i) = sg n f + sg n g := by
  induction n with
  | zero => rfl
  | succ n ih => simp only [sg]; rw [ih]; omega
theorem sg_mul (n : Nat) (f : Nat → Int) (c : Int) : sg n (fun i => f i * c) = sg n f * c := by
  induction n with
  | zero => simp [sg]
  | succ n ih => simp only [sg]; rw [ih, Int.add_mul]
theorem sg_zero (n : Nat) : sg n (fun _ => 0) = 0 := by
  induction n with
  | zero => rfl
  | succ n ih => simp only [sg]; rw [ih]; rfl
theorem sg_one (n j : Nat) (hj : j < n) (c : Int) : sg n (fun i => if j = i then c else 0) = c := by
  induction n with
  | zero => omega
  | succ n ih =>
    simp only [sg]
    by_cases e : j = n
    · subst e
      rw [if_pos rfl, sg_congr (g := fun _ => 0) (fun i hi => if_neg (by omega)), sg_zero]; omega
    · rw [if_neg e, ih (by omega)]; omega
/-- How many times a variable stands in a form. -/
def coef : List S44 → Nat → Int
  | [], _ => 0
  | m :: l, v => (if m.f0 = (v : Int) then m.f1 else 0) + coef l v
theorem rightL_vars {l : List S44} (h : rightL (-1) l = true) : ∀ m ∈ l, 0 ≤ m.f0 ∧ m.f0 < 64 := fun m hm => by
  have := rightL_mem l (-1) h m hm; omega
theorem coef_none : ∀ (l : List S44) (last : Int), rightL last l = true → ∀ v : Nat, (v : Int) ≤ last → coef l v = 0 := by
  intro l
  induction l with
  | nil => intro _ _ _ _; rfl
  | cons m l ih =>
    intro last h v hv
    simp only [rightL, Bool.and_eq_true, decide_eq_true_eq] at h
    simp only [coef]
    rw [if_neg (by omega), ih m.f0 h.2 v (by omega)]; rfl
theorem coef_R64 : ∀ (l : List S44) (last : Int), rightL last l = true → M64 l → ∀ v : Nat, R64 (coef l v) := by
  intro l
  induction l with
  | nil => intro _ _ _ _; exact ⟨by simp [coef], by simp [coef]⟩
  | cons m l ih =>
    intro last h hM v
    have hr := h
    simp only [rightL, Bool.and_eq_true, decide_eq_true_eq] at h
    simp only [coef]
    by_cases e : m.f0 = (v : Int)
    · rw [if_pos e, coef_none l m.f0 h.2 v (by omega), Int.add_zero]; exact (hM m (List.mem_cons_self ..)).2
    · rw [if_neg e, Int.zero_add]; exact ih m.f0 h.2 (fun a ha => hM a (List.mem_cons_of_mem _ ha)) v
/-- The form of which the variables stand so many times. -/
def linOf (c : Nat → Int) (n : Nat) : List S44 := (List.range n).filterMap fun i => if c i = 0 then none else some ⟨(i : Int), c i⟩
theorem linOf_succ (c : Nat → Int) (n : Nat) : linOf c (n + 1) = linOf c n ++ (if c n = 0 then [] else [⟨(n : Int), c n⟩]) := by
  unfold linOf
  rw [List.range_succ, List.filterMap_append]
  congr 1
  simp only [List.filterMap_cons, List.filterMap_nil]
  split <;> simp_all
theorem linOf_mem (c : Nat → Int) : ∀ (n : Nat) (m : S44), m ∈ linOf c n → ∃ i : Nat, i < n ∧ m = ⟨(i : Int), c i⟩ ∧ c i ≠ 0 := by
  intro n
  induction n with
  | zero => intro m hm; cases hm
  | succ n ih =>
    intro m hm
    rw [linOf_succ] at hm
    rcases List.mem_append.1 hm with h | h
    · obtain ⟨i, h1, h2⟩ := ih m h; exact ⟨i, by omega, h2⟩
    · by_cases e : c n = 0
      · rw [if_pos e] at h; cases h
      · rw [if_neg e] at h; exact ⟨n, by omega, by simpa using h, e⟩
theorem linOf_len (c : Nat → Int) (n : Nat) : (linOf c n).length ≤ n := by
  have := List.length_filterMap_le (fun i : Nat => if c i = 0 then none else some (⟨(i : Int), c i⟩ : S44)) (List.range n)
  simpa [linOf] using this
theorem rightL_append : ∀ (a : List S44) (last : Int) (m : S44), rightL last a = true → (∀ x ∈ a, x.f0 < m.f0) → last < m.f0 → m.f0 < 64 → m.f1 ≠ 0 → rightL last (a ++ [m]) = true := by
  intro a
  induction a with
  | nil => intro last m _ _ h1 h2 h3; simp [rightL, h1, h2, h3]
  | cons b a ih =>
    intro last m h hlt h1 h2 h3
    simp only [rightL, Bool.and_eq_true, List.cons_append] at h ⊢
    exact ⟨h.1, ih b.f0 m h.2 (fun x hx => hlt x (List.mem_cons_of_mem _ hx)) (hlt b (List.mem_cons_self ..)) h2 h3⟩
theorem linOf_right (c : Nat → Int) : ∀ n, n ≤ 64 → rightL (-1) (linOf c n) = true := by
  intro n
  induction n with
  | zero => intro _; rfl
  | succ n ih =>
    intro hn
    rw [linOf_succ]
    by_cases e : c n = 0
    · rw [if_pos e, List.append_nil]; exact ih (by omega)
    · rw [if_neg e]
      refine rightL_append _ _ _ (ih (by omega)) (fun x hx => ?_) (by simp only; omega) (by simp only; omega) e
      obtain ⟨i, hi, rfl, _⟩ := linOf_mem c n x hx
      simp only; omega
theorem linOf_M64 (c : Nat → Int) (n : Nat) (hn : n ≤ 64) (h : ∀ v, v < n → R64 (c v)) : M64 (linOf c n) := by
  intro m hm
  obtain ⟨i, hi, rfl, _⟩ := linOf_mem c n m hm
  exact ⟨⟨by simp only; omega, by simp only; omega⟩, h i hi⟩
/-- How many times a variable stands in a sum; and the sum's constant. -/
def csum : List S75 → Nat → Int
  | [], _ => 0
  | x :: l, v => coef x.f0.f1 v * x.f1 + csum l v
def kS : List S75 → Int
  | [] => 0
  | x :: l => x.f0.f0 * x.f1 + kS l
theorem ksum_eq (l : List S75) : ∀ s, l.foldl (fun s x => s + x.f0.f0 * x.f1) s = s + kS l := by
  induction l with
  | nil => intro s; simp [kS]
  | cons x l ih => intro s; simp only [List.foldl_cons, kS]; rw [ih]; omega
theorem addM_len (b : Int) (acc : List Int) (m : S44) : (addM b acc m).length = acc.length := by simp [addM]
theorem addMs_len (b : Int) (l : List S44) : ∀ acc : List Int, (l.foldl (addM b) acc).length = acc.length := by
  induction l with
  | nil => intro _; rfl
  | cons m l ih => intro acc; rw [List.foldl_cons, ih, addM_len]
theorem addM_get (b : Int) (acc : List Int) (m : S44) (v : Nat) (hv : v < acc.length) (h0 : 0 ≤ m.f0) : (addM b acc m).getD v 0 = acc.getD v 0 + (if m.f0 = (v : Int) then m.f1 else 0) * b := by
  unfold addM
  rw [List.getD_eq_getElem?_getD, List.getElem?_set, List.getD_eq_getElem?_getD, List.getD_eq_getElem?_getD]
  by_cases e : m.f0 = (v : Int)
  · have e2 : m.f0.toNat = v := by omega
    rw [if_pos e, if_pos e2, if_pos (by omega), e2]; rfl
  · rw [if_neg e, if_neg (by omega), Int.zero_mul, Int.add_zero]
theorem addMs_get (b : Int) (v : Nat) (l : List S44) : ∀ acc : List Int, v < acc.length → (∀ m ∈ l, 0 ≤ m.f0) → (l.foldl (addM b) acc).getD v 0 = acc.getD v 0 + coef l v * b := by
  induction l with
  | nil => intro acc _ _; simp [coef]
  | cons m l ih =>
    intro acc hv h
    rw [List.foldl_cons, ih _ (by rw [addM_len]; exact hv) (fun a ha => h a (List.mem_cons_of_mem _ ha)), addM_get b acc m v hv (h m (List.mem_cons_self ..))]
    simp only [coef, Int.add_mul]; omega
theorem accs_get (v : Nat) (l : List S75) : ∀ acc : List Int, v < acc.length → (∀ x ∈ l, ∀ m ∈ x.f0.f1, 0 ≤ m.f0) → (l.foldl addF acc).getD v 0 = acc.getD v 0 + csum l v := by
  induction l with
  | nil => intro acc _ _; simp [csum]
  | cons x l ih =>
    intro acc hv h
    rw [List.foldl_cons, ih _ (by unfold addF; rw [addMs_len]; exact hv) (fun a ha => h a (List.mem_cons_of_mem _ ha))]
    unfold addF
    rw [addMs_get x.f1 v x.f0.f1 acc hv (h x (List.mem_cons_self ..))]
    simp only [csum]; omega
/-- A sum's parts: forms that are right, and numbers in range. -/
def G67 (l : List S75) : Prop := ∀ x ∈ l, R64 x.f0.f0 ∧ rightL (-1) x.f0.f1 = true ∧ M64 x.f0.f1 ∧ R64 x.f1
theorem G67_tail {x : S75} {l : List S75} (h : G67 (x :: l)) : G67 l := fun a ha => h a (List.mem_cons_of_mem _ ha)
theorem csum_le (v : Nat) : ∀ l : List S75, G67 l → -(l.length * 85070591730234615865843651857942052864 : Int) ≤ csum l v ∧ csum l v ≤ l.length * 85070591730234615865843651857942052864 := by
  intro l
  induction l with
  | nil => intro _; simp [csum]
  | cons x l ih =>
    intro h
    have h1 := ih (G67_tail h)
    have hx := h x (List.mem_cons_self ..)
    have h2 := mul_R64 (coef_R64 x.f0.f1 (-1) hx.2.1 hx.2.2.1 v) hx.2.2.2
    simp only [csum, List.length_cons]
    omega
theorem kS_le : ∀ l : List S75, G67 l → -(l.length * 85070591730234615865843651857942052864 : Int) ≤ kS l ∧ kS l ≤ l.length * 85070591730234615865843651857942052864 := by
  intro l
  induction l with
  | nil => intro _; simp [kS]
  | cons x l ih =>
    intro h
    have h1 := ih (G67_tail h)
    have hx := h x (List.mem_cons_self ..)
    have h2 := mul_R64 hx.1 hx.2.2.2
    simp only [kS, List.length_cons]
    omega
def fitsC (c : Nat → Int) : Bool := (List.range 64).all fun v => decide (R64 (c v))
theorem fitsC_R64 {c : Nat → Int} (h : fitsC c = true) : ∀ v, v < 64 → R64 (c v) := by
  intro v hv
  have := List.all_eq_true.1 h v (List.mem_range.2 hv)
  simpa using this
theorem filterMap_congr_ {α β : Type} (l : List α) (f g : α → Option β) (h : ∀ a ∈ l, f a = g a) : l.filterMap f = l.filterMap g := by
  induction l with
  | nil => rfl
  | cons a l ih =>
    rw [List.filterMap_cons, List.filterMap_cons, h a (List.mem_cons_self ..), ih (fun b hb => h b (List.mem_cons_of_mem _ hb))]
/-- What a sum comes to. -/
def sumR (l : List S75) : Int × List S44 × Int :=
  if R64 (kS l) ∧ fitsC (csum l) = true then (kS l, linOf (csum l) 64, 0) else (0, [], 5)
theorem fit64_R {n : Int} (h : R64 n) : fit64 n = (n, true) := by
  have h' : -9223372036854775808 ≤ n ∧ n ≤ 9223372036854775807 := h
  unfold fit64; rw [if_pos h']
theorem fit64_N {n : Int} (h : ¬ R64 n) : fit64 n = (0, false) := by
  have h' : ¬ (-9223372036854775808 ≤ n ∧ n ≤ 9223372036854775807) := h
  unfold fit64; rw [if_neg h']
theorem fit64_2 (n : Int) : (fit64 n).2 = decide (R64 n) := by
  by_cases h : R64 n
  · rw [fit64_R h, decide_eq_true h]
  · rw [fit64_N h, decide_eq_false h]
theorem sum_eq (l : List S75) (h : G67 l) (hl : l.length ≤ 9223372036854775807) : lin_sum.f l = some (sumR l) := by
  have hg : l.all goodF = true := by
    rw [List.all_eq_true]
    intro x hx
    obtain ⟨a, b, c, d⟩ := h x hx
    simp only [goodF, Bool.and_eq_true, List.all_eq_true]
    refine ⟨⟨in64_of a, in64_of d⟩, fun m hm => ?_⟩
    have := rightL_vars b m hm
    simp only [goodM, Bool.and_eq_true, decide_eq_true_eq]
    exact ⟨this, in64_of (c m hm).2⟩
  have hacc : ∀ v, v < 64 → (accs l).getD v 0 = csum l v := by
    intro v hv
    unfold accs
    rw [accs_get v l _ (by simpa using hv) (fun x hx m hm => (rightL_vars (h x hx).2.1 m hm).1)]
    have h0 : (List.replicate 64 (0:Int)).getD v 0 = 0 := by rw [List.getD_eq_getElem?_getD, List.getElem?_replicate, if_pos hv]; rfl
    rw [h0]; omega
  have hW : ∀ v, v < 64 → fit192 ((accs l).getD v 0) = fit64 (csum l v) := by
    intro v hv
    rw [hacc v hv]
    unfold fit192
    have := csum_le v l h
    rw [wrap192_id (by omega) (by omega)]
  have hK : fit192 (ksum l) = fit64 (kS l) := by
    have e : ksum l = kS l := by unfold ksum; rw [ksum_eq]; omega
    rw [e]
    unfold fit192
    have := kS_le l h
    rw [wrap192_id (by omega) (by omega)]
  have hall : ((List.range 64).all fun i => (fit192 ((accs l).getD i 0)).2) = fitsC (csum l) := by
    unfold fitsC
    rw [Bool.eq_iff_iff, List.all_eq_true, List.all_eq_true]
    constructor
    · intro hh v hv
      have := hh v hv
      rwa [hW v (List.mem_range.1 hv), fit64_2] at this
    · intro hh v hv
      have := hh v hv
      rwa [hW v (List.mem_range.1 hv), fit64_2]
  unfold lin_sum.f sumR
  rw [if_pos hg, hK, fit64_2]
  unfold sumOk
  rw [hall]
  by_cases e : R64 (kS l) ∧ fitsC (csum l) = true
  · rw [if_pos e, if_pos (by simp [e.1, e.2]), fit64_R e.1]
    congr 3
    have hc := fitsC_R64 e.2
    unfold sumOut linOf
    refine filterMap_congr_ _ _ _ fun i hi => ?_
    rw [hW i (List.mem_range.1 hi), fit64_R (hc i (List.mem_range.1 hi))]
  · rw [if_neg e, if_neg (by simp only [Bool.and_eq_true, decide_eq_true_eq]; exact e)]
/-- The forms, each with its number of times. -/
def zipS (l0 : List S41) (l1 : List Int) : List S75 := List.zipWith (fun q b => ⟨q, b⟩) l0 l1
theorem zipS_G67 {l0 : List S41} {l1 : List Int} (h0 : ∀ q ∈ l0, R64 q.f0 ∧ M64 q.f1) (hr : l0.all (fun q => rightL (-1) q.f1) = true) (h1 : I64 l1) : G67 (zipS l0 l1) := by
  intro x hx
  obtain ⟨i, hi, he⟩ := List.getElem_of_mem hx
  unfold zipS at he hi
  rw [List.getElem_zipWith] at he
  subst he
  simp only [List.length_zipWith] at hi
  have a0 : l0[i]'(by omega) ∈ l0 := List.getElem_mem _
  have a1 : l1[i]'(by omega) ∈ l1 := List.getElem_mem _
  exact ⟨(h0 _ a0).1, List.all_eq_true.1 hr _ a0, (h0 _ a0).2, h1 _ a1⟩
def sumD (l0 : List S41) (l1 : List Int) : Int × List S44 × Int :=
  if l0.all (fun q => rightL (-1) q.f1) = true ∧ l0.length = l1.length then sumR (zipS l0 l1) else (0, [], 1)
theorem linSum_l0 (l0 : List S41) (l1 : List Int) (hG : G67 (zipS l0 l1)) (he : l0.length = l1.length) (hlen : l0.length ≤ 1000000) : ∀ (d i : Nat) (acc : List S75), l0.length - i = d → i ≤ l0.length → acc = (zipS l0 l1).take i →
    Ev (fun k => lin_Sum.l0 k l1 acc l0 (l0.length:Int) i) (sumR (zipS l0 l1)) := by
  have hzl : (zipS l0 l1).length = l0.length := by simp [zipS, he]
  intro d
  induction d with
  | zero =>
    intro i acc h1 h2 hacc
    refine Ev.succ (Ev.now fun k => ?_)
    simp only [lin_Sum.l0]
    rw [if_neg (by omega), hacc, List.take_of_length_le (by omega), sum_eq _ hG (by omega)]; rfl
  | succ d ih =>
    intro i acc h1 h2 hacc
    have hi : i < l0.length := by omega
    refine Ev.succ (Ev.of (ih (i+1) (acc ++ [⟨l0[i], l1[i]'(by omega)⟩]) (by omega) (by omega) ?_) fun k => ?_)
    · rw [hacc, List.take_succ_eq_append_getElem (by omega)]
      simp [zipS]
    · have hal : acc.length ≤ 1000000 := by rw [hacc]; simp; omega
      simp only [lin_Sum.l0]
      rw [if_pos (by omega), if_pos (by omega), if_pos (by omega), if_pos (by omega), if_pos (by omega), rdQ_at l0 i hi, rd_at l1 i (by omega), w64 (by omega) (by omega)]; rfl
theorem linSum_ev (l0 : List S41) (l1 : List Int) (h0 : ∀ q ∈ l0, R64 q.f0 ∧ M64 q.f1 ∧ q.f1.length ≤ 9223372036854775807) (h1 : I64 l1) (hlen : l0.length ≤ 1000000) :
    Ev (fun k => lin_Sum.f k l0 l1) (sumD l0 l1) := by
  refine Ev.bind (linright_ev l0 (by omega) (fun q hq => (h0 q hq).2.2)) ?_
  unfold sumD
  by_cases e : l0.all (fun q => rightL (-1) q.f1) = true
  · refine Ev.pos e ?_
    by_cases e2 : l0.length = l1.length
    · rw [if_pos ⟨e, e2⟩]
      refine Ev.succ (Ev.of (linSum_l0 l0 l1 (zipS_G67 (fun q hq => ⟨(h0 q hq).1, (h0 q hq).2.1⟩) e h1) e2 hlen _ 0 [] rfl (by omega) (by simp)) fun k => ?_)
      simp only [lin_Sum.j0]
      rw [if_neg (by simp; omega)]; rfl
    · rw [if_neg (fun h => e2 h.2)]
      refine Ev.succ (Ev.now fun k => ?_)
      simp only [lin_Sum.j0]
      rw [if_pos (by simp; omega)]
  · rw [if_neg (fun h => e h.1)]
    refine Ev.neg e (Ev.succ (Ev.now fun k => ?_))
    simp only [lin_Sum.j0, if_true]
theorem sumR_fine (l : List S75) : R64 (sumR l).1 ∧ M64 (sumR l).2.1 ∧ (sumR l).2.1.length ≤ 64 ∧ rightL (-1) (sumR l).2.1 = true := by
  unfold sumR
  by_cases e : R64 (kS l) ∧ fitsC (csum l) = true
  · rw [if_pos e]
    exact ⟨e.1, linOf_M64 _ 64 (Nat.le_refl _) (fitsC_R64 e.2), linOf_len _ 64, linOf_right _ 64 (Nat.le_refl _)⟩
  · rw [if_neg e]
    refine ⟨⟨by simp, by simp⟩, ?_, by simp, rfl⟩
    intro m hm
    cases hm
/-- A variable's value, 0 where none is told. -/
def xv (x : List Int) (v : Nat) : Int := if (v : Int) < (x.length : Int) then rd x v else 0
/-- The monomials' value. -/
def valL (l : List S44) (x : List Int) : Int := l.foldl (evalStep x) 0
theorem valL_cons (m : S44) (l : List S44) (x : List Int) (h0 : 0 ≤ m.f0) : valL (m :: l) x = m.f1 * xv x m.f0.toNat + valL l x := by
  unfold valL
  rw [List.foldl_cons, evalFold_add]
  congr 1
  unfold evalStep xv
  rw [show ((m.f0.toNat : Nat) : Int) = m.f0 by omega]
  split <;> simp
theorem valL_append (a b : List S44) (x : List Int) : valL (a ++ b) x = valL a x + valL b x := by
  unfold valL
  rw [List.foldl_append, evalFold_add x b]
theorem valL_sg (x : List Int) : ∀ (l : List S44), (∀ m ∈ l, 0 ≤ m.f0 ∧ m.f0 < 64) → valL l x = sg 64 (fun v => coef l v * xv x v) := by
  intro l
  induction l with
  | nil => intro _; simp only [coef, Int.zero_mul, sg_zero]; rfl
  | cons m l ih =>
    intro h
    have hm := h m (List.mem_cons_self ..)
    rw [valL_cons m l x hm.1, ih (fun a ha => h a (List.mem_cons_of_mem _ ha))]
    simp only [coef, Int.add_mul]
    rw [sg_add]
    congr 1
    rw [sg_congr (g := fun i => if m.f0.toNat = i then m.f1 * xv x m.f0.toNat else 0) (fun i hi => ?_), sg_one 64 _ (by omega)]
    by_cases e : m.f0.toNat = i
    · rw [if_pos e, if_pos (by omega), e]
    · rw [if_neg e, if_neg (by omega), Int.zero_mul]
theorem linOf_val (c : Nat → Int) (x : List Int) : ∀ n, valL (linOf c n) x = sg n (fun v => c v * xv x v) := by
  intro n
  induction n with
  | zero => rfl
  | succ n ih =>
    rw [linOf_succ, valL_append, ih]
    simp only [sg]
    congr 1
    by_cases e : c n = 0
    · rw [if_pos e, e, Int.zero_mul]; rfl
    · rw [if_neg e, valL_cons _ _ _ (by simp only; omega)]
      simp [valL]
/-- The value of a sum. -/
def vS (x : List Int) : List S75 → Int
  | [] => 0
  | y :: l => (y.f0.f0 + valL y.f0.f1 x) * y.f1 + vS x l
theorem vS_eq (x : List Int) : ∀ l : List S75, G67 l → vS x l = kS l + sg 64 (fun v => csum l v * xv x v) := by
  intro l
  induction l with
  | nil => intro _; simp only [vS, kS, csum, Int.zero_mul, sg_zero]; rfl
  | cons y l ih =>
    intro h
    have hy := h y (List.mem_cons_self ..)
    simp only [vS, kS, csum]
    rw [ih (G67_tail h), valL_sg x y.f0.f1 (rightL_vars hy.2.1), Int.add_mul]
    rw [sg_congr (f := fun v => (coef y.f0.f1 v * y.f1 + csum l v) * xv x v) (g := fun v => coef y.f0.f1 v * xv x v * y.f1 + csum l v * xv x v) (fun i _ => by rw [Int.add_mul, Int.mul_assoc, Int.mul_comm y.f1, ← Int.mul_assoc]), sg_add, sg_mul]
    omega
theorem sumR_val (x : List Int) (l : List S75) (h : G67 l) (ho : (sumR l).2.2 = 0) : (sumR l).1 + valL (sumR l).2.1 x = vS x l := by
  unfold sumR at ho ⊢
  by_cases e : R64 (kS l) ∧ fitsC (csum l) = true
  · rw [if_pos e]
    simp only
    rw [linOf_val, vS_eq x l h]
  · rw [if_neg e] at ho; simp at ho
theorem and_low (x : Nat) (h : x < 18446744073709551616) : Go.bits .and .u64 (x:Int) 4294967295 = ((x % 4294967296 : Nat) : Int) := by
  refine Eq.trans (u64_and_nat x 4294967295 h (by decide)) ?_
  congr 1
  exact Nat.and_two_pow_sub_one_eq_mod x 32
theorem Mul64_eq (a b : Nat) (ha : a < 18446744073709551616) (hb : b < 18446744073709551616) :
    bits_Mul64.f a b = some (((a * b / 18446744073709551616 : Nat) : Int), ((a * b % 18446744073709551616 : Nat) : Int)) := by
  have h := mul64 a b ha hb
  have hA : a / 4294967296 < 4294967296 := by omega
  have hB : b / 4294967296 < 4294967296 := by omega
  have hA' : a % 4294967296 < 4294967296 := by omega
  have hB' : b % 4294967296 < 4294967296 := by omega
  have m : ∀ x y : Nat, x < 4294967296 → y < 4294967296 → x * y ≤ 18446744065119617025 := fun x y h1 h2 => Nat.le_trans (Nat.mul_le_mul (Nat.le_of_lt_succ h1) (Nat.le_of_lt_succ h2)) (by decide)
  have h1 := m _ _ hA hB
  have h2 := m _ _ hA hB'
  have h3 := m _ _ hA' hB
  have h4 := m _ _ hA' hB'
  unfold bits_Mul64.f
  simp only [and_low a ha, and_low b hb, u64w]
  rw [show (a:Int) / 4294967296 = ((a / 4294967296 : Nat) : Int) by omega, show (b:Int) / 4294967296 = ((b / 4294967296 : Nat) : Int) by omega]
  generalize a / 4294967296 = x at *
  generalize a % 4294967296 = y at *
  generalize b / 4294967296 = u at *
  generalize b % 4294967296 = v at *
  simp only [← Int.natCast_mul]
  generalize x * u = p at *
  generalize x * v = q at *
  generalize y * u = r at *
  generalize y * v = s at *
  have e1 : ((q:Int) % 18446744073709551616 + (s:Int) % 18446744073709551616 / 4294967296) % 18446744073709551616 = ((q + s / 4294967296 : Nat) : Int) := by omega
  rw [e1, and_low _ (by omega)]
  congr 2
  omega
theorem signed_neg (g : Nat) (h : g < 18446744073709551616) : num_signed.f g true = some (fitI (-(g:Int))) := by
  unfold num_signed.f num_told.f fitI
  simp only [if_true]
  by_cases e : g ≤ 9223372036854775808
  · rw [decide_eq_true (by omega), if_pos rfl, if_pos (by omega)]
    simp only [Option.bind_some]
    congr 2
    unfold wrap64; omega
  · rw [decide_eq_false (by omega), if_neg (by simp), if_neg (by omega)]; rfl
theorem signed_pos (g : Nat) (h : g < 18446744073709551616) : num_signed.f g false = some (fitI g) := by
  rw [signed_ev g h]
  unfold fitI
  by_cases e : g ≤ 9223372036854775807
  · rw [if_pos e, if_pos (by omega)]
  · rw [if_neg e, if_neg (by omega)]
theorem natAbs_mul_sign (a b : Int) : a * b = if (decide (a < 0) != decide (b < 0)) = true then -((a.natAbs * b.natAbs : Nat) : Int) else ((a.natAbs * b.natAbs : Nat) : Int) := by
  have h := Int.natAbs_mul a b
  rw [← h]
  rcases Int.lt_or_le a 0 with ha | ha <;> rcases Int.lt_or_le b 0 with hb | hb
  · have := Int.mul_pos_of_neg_of_neg ha hb
    simp [ha, hb]; omega
  · have := Int.mul_nonpos_of_nonpos_of_nonneg (Int.le_of_lt ha) hb
    rw [decide_eq_true ha, decide_eq_false (Int.not_lt.mpr hb)]; simp only [Bool.true_bne, Bool.not_false, if_true]; omega
  · have := Int.mul_nonpos_of_nonneg_of_nonpos ha (Int.le_of_lt hb)
    rw [decide_eq_true hb, decide_eq_false (Int.not_lt.mpr ha)]; simp only [Bool.bne_true, Bool.not_false, if_true]; omega
  · have := Int.mul_nonneg ha hb
    rw [decide_eq_false (Int.not_lt.mpr ha), decide_eq_false (Int.not_lt.mpr hb)]; simp; omega
theorem Mul_eq {a b : Int} (h1 : -9223372036854775808 ≤ a) (h2 : a ≤ 9223372036854775807) (h3 : -9223372036854775808 ≤ b) (h4 : b ≤ 9223372036854775807) :
    num_Mul.f a b = some (fitI (a * b)) := by
  have hm := abs_mul_lt h1 h2 h3 h4
  have hs := natAbs_mul_sign a b
  unfold num_Mul.f
  rw [size_eq h1 h2]
  simp only [Option.bind_some]
  rw [size_eq h3 h4]
  simp only [Option.bind_some]
  rw [Mul64_eq _ _ (by omega) (by omega)]
  simp only [Option.bind_some]
  generalize a.natAbs * b.natAbs = p at *
  by_cases e : p < 18446744073709551616
  · rw [if_neg (by omega), Nat.mod_eq_of_lt e]
    cases hc : (decide (a < 0) != decide (b < 0)) with
    | true => rw [hc, if_pos rfl] at hs; rw [signed_neg p e, hs]; rfl
    | false => rw [hc, if_neg (by simp)] at hs; rw [signed_pos p e, hs]; rfl
  · rw [if_pos (by omega)]
    unfold fitI
    rw [if_neg]
    split at hs <;> omega
theorem told_eq (n : Int) (b : Bool) : num_told.f n b = some (if b = true then (n, true) else (0, false)) := by
  unfold num_told.f; split <;> rfl
theorem Add_eq {a b : Int} (h1 : -9223372036854775808 ≤ a) (h2 : a ≤ 9223372036854775807) (h3 : -9223372036854775808 ≤ b) (h4 : b ≤ 9223372036854775807) :
    num_Add.f a b = some (fitI (a + b)) := by
  unfold num_Add.f
  rw [told_eq]
  simp only [Option.bind_some]
  congr 1
  unfold fitI
  by_cases h : -9223372036854775808 ≤ a + b ∧ a + b ≤ 9223372036854775807
  · rw [w64 h.1 h.2, if_pos h, show decide (a + b > a) = decide (b > 0) by rw [decide_eq_decide]; omega]; simp
  · rw [if_neg h]
    have : (decide (wrap64 (a + b) > a) == decide (b > 0)) = false := by
      rw [beq_eq_false_iff_ne, Ne, decide_eq_decide]; unfold wrap64; omega
    rw [this]; rfl
theorem Sub_eq {a b : Int} (h1 : -9223372036854775808 ≤ a) (h2 : a ≤ 9223372036854775807) (h3 : -9223372036854775808 ≤ b) (h4 : b ≤ 9223372036854775807) :
    num_Sub.f a b = some (fitI (a - b)) := by
  unfold num_Sub.f
  rw [told_eq]
  simp only [Option.bind_some]
  congr 1
  unfold fitI
  by_cases h : -9223372036854775808 ≤ a - b ∧ a - b ≤ 9223372036854775807
  · rw [w64 h.1 h.2, if_pos h, show decide (a - b < a) = decide (b > 0) by rw [decide_eq_decide]; omega]; simp
  · rw [if_neg h]
    have : (decide (wrap64 (a - b) < a) == decide (b > 0)) = false := by
      rw [beq_eq_false_iff_ne, Ne, decide_eq_decide]; unfold wrap64; omega
    rw [this]; rfl
theorem tmod_facts (a b : Int) (hb : b ≠ 0) : (Int.tmod a b).natAbs < b.natAbs ∧ (0 ≤ a → 0 ≤ Int.tmod a b) ∧ (a ≤ 0 → Int.tmod a b ≤ 0) ∧ b * Int.tdiv a b + Int.tmod a b = a := by
  refine ⟨?_, fun h => Int.tmod_nonneg b h, fun h => ?_, Int.mul_tdiv_add_tmod a b⟩
  · rw [Int.natAbs_tmod]; exact Nat.mod_lt _ (by omega)
  · have := Int.tmod_nonneg b (show 0 ≤ -a by omega)
    rw [Int.neg_tmod] at this; omega
theorem tdiv_le (a b : Int) : (Int.tdiv a b).natAbs ≤ a.natAbs := by
  rw [Int.natAbs_tdiv]; exact Nat.div_le_self _ _
theorem tdiv_two (a b : Int) (h : 2 ≤ b.natAbs) : (Int.tdiv a b).natAbs ≤ a.natAbs / 2 := by
  rw [Int.natAbs_tdiv]; exact Nat.div_le_div_left h (by omega)
/-- A quotient that is none. -/
def Over (a b : Int) : Prop := b = 0 ∨ (a = -9223372036854775808 ∧ b = -1)
theorem over_true {a b : Int} (h : Over a b) : num_over.f a b = some true := by
  unfold num_over.f
  rcases h with h | ⟨h, h'⟩
  · rw [if_pos h]
  · subst h h'; rfl
theorem over_false {a b : Int} (h : ¬ Over a b) : num_over.f a b = some false := by
  unfold num_over.f Over at *
  rw [if_neg (by omega)]
  split
  · rw [show (b == -1) = false from beq_eq_false_iff_ne.2 (by omega)]
  · rfl
theorem tdiv_in {a b : Int} (h1 : -9223372036854775808 ≤ a) (h2 : a ≤ 9223372036854775807) (h : ¬ Over a b) : wrap64 (Int.tdiv a b) = Int.tdiv a b := by
  have := tdiv_le a b
  have h3 : Int.tdiv a b ≠ 9223372036854775808 := by
    intro e
    by_cases hb : 2 ≤ b.natAbs
    · have := tdiv_two a b hb; omega
    · unfold Over at h
      by_cases hb1 : b = 1
      · subst hb1; rw [Int.tdiv_one] at e; omega
      · have hbm : b = -1 := by omega
        subst hbm
        have : Int.tdiv a (-1) = -a := by rw [Int.tdiv_neg, Int.tdiv_one]
        omega
  exact w64 (by omega) (by omega)
/-- How many times a variable stands in a form: what is met first. -/
def coefI : List S44 → Int → Int
  | [], _ => 0
  | m :: l, v => if m.f0 = v then m.f1 else coefI l v
theorem coefI_coef : ∀ (l : List S44) (last : Int), rightL last l = true → -1 ≤ last → ∀ v : Nat, coefI l v = coef l v := by
  intro l
  induction l with
  | nil => intro _ _ _ v; rfl
  | cons m l ih =>
    intro last h hl v
    have hr := h
    simp only [rightL, Bool.and_eq_true, decide_eq_true_eq] at h
    simp only [coefI, coef]
    by_cases e : m.f0 = (v : Int)
    · rw [if_pos e, if_pos e, coef_none l m.f0 h.2 v (by omega), Int.add_zero]
    · rw [if_neg e, if_neg e, Int.zero_add]; exact ih m.f0 h.2 (by omega) v
theorem coefI_R64 : ∀ (l : List S44) (v : Int), M64 l → R64 (coefI l v) := by
  intro l v
  induction l with
  | nil => intro _; exact ⟨by simp [coefI], by simp [coefI]⟩
  | cons m l ih =>
    intro hM
    simp only [coefI]
    split
    · exact (hM m (List.mem_cons_self ..)).2
    · exact ih (fun a ha => hM a (List.mem_cons_of_mem _ ha))
theorem linBy_l0 (l : List S44) (v : Int) (hlen : l.length ≤ 9223372036854775807) : ∀ (n i : Nat), l.length - i = n → i ≤ l.length → Ev (fun k => lin_By.l0 k v l (l.length : Int) i) (coefI (l.drop i) v) := by
  intro n
  induction n with
  | zero =>
    intro i h1 h2
    refine Ev.succ (Ev.now fun k => ?_)
    simp only [lin_By.l0]
    rw [if_neg (by omega), List.drop_eq_nil_of_le (by omega)]; rfl
  | succ n ih =>
    intro i h1 h2
    have hi : i < l.length := by omega
    rw [List.drop_eq_getElem_cons hi]
    by_cases e : l[i].f0 = v
    · refine Ev.succ (Ev.now fun k => ?_)
      simp only [lin_By.l0, coefI]
      rw [if_pos (by omega), if_pos (by omega), if_pos (by omega), rdM_at l i hi, if_pos e, if_pos e]
    · refine (Ev.succ (Ev.of (ih (i+1) (by omega) (by omega)) fun k => ?_)).val ?_
      · simp only [lin_By.l0]
        rw [if_pos (by omega), if_pos (by omega), if_pos (by omega), rdM_at l i hi, if_neg e, w64 (by omega) (by omega)]; rfl
      · simp only [coefI]; rw [if_neg e]
theorem linBy_ev (K : Int) (l : List S44) (v : Int) (hlen : l.length ≤ 9223372036854775807) : Ev (fun k => lin_By.f k K l v) (coefI l v) := by
  have := linBy_l0 l v hlen _ 0 rfl (by omega)
  exact this
/-- A form without a variable. -/
def lessL (l : List S44) (v : Int) : List S44 := l.filter fun m => decide (m.f0 ≠ v)
theorem lessL_right (v : Int) : ∀ (l : List S44) (last : Int), rightL last l = true → rightL last (lessL l v) = true := by
  intro l
  induction l with
  | nil => intro _ _; rfl
  | cons m l ih =>
    intro last h
    have h0 := h
    simp only [rightL, Bool.and_eq_true, decide_eq_true_eq] at h
    unfold lessL
    rw [List.filter_cons]
    by_cases e : m.f0 = v
    · rw [if_neg (by simp [e])]
      have h3 := ih m.f0 h.2
      show rightL last (lessL l v) = true
      revert h3
      cases lessL l v with
      | nil => intro _; rfl
      | cons b t =>
        intro h3
        simp only [rightL, Bool.and_eq_true, decide_eq_true_eq] at h3 ⊢
        exact ⟨⟨⟨by omega, h3.1.1.2⟩, h3.1.2⟩, h3.2⟩
    · rw [if_pos (by simp [e])]
      simp only [rightL, Bool.and_eq_true, decide_eq_true_eq]
      exact ⟨h.1, ih m.f0 h.2⟩
theorem lessL_M64 {l : List S44} (v : Int) (h : M64 l) : M64 (lessL l v) := fun m hm => h m (List.mem_filter.1 hm).1
def putS (K : Int) (l : List S44) (v : Int) (K2 : Int) (l2 : List S44) : List S75 := [⟨⟨K, lessL l v⟩, 1⟩, ⟨⟨K2, l2⟩, coefI l v⟩]
def putD (K : Int) (l : List S44) (v : Int) (K2 : Int) (l2 : List S44) : Int × List S44 × Int :=
  if rightL (-1) l = true ∧ rightL (-1) l2 = true then sumR (putS K l v K2 l2) else (0, [], 1)
theorem putS_G67 {K : Int} {l : List S44} (v : Int) {K2 : Int} {l2 : List S44} (hK : R64 K) (hl : M64 l) (hr : rightL (-1) l = true) (hK2 : R64 K2) (hl2 : M64 l2) (hr2 : rightL (-1) l2 = true) : G67 (putS K l v K2 l2) := by
  intro x hx
  simp [putS] at hx
  rcases hx with h | h
  · subst h; exact ⟨hK, lessL_right v l (-1) hr, lessL_M64 v hl, by simp, by simp⟩
  · subst h; exact ⟨hK2, hr2, hl2, coefI_R64 l v hl⟩
theorem put_l0 (K : Int) (l : List S44) (v : Int) (K2 : Int) (l2 : List S44) (hG : G67 (putS K l v K2 l2)) (hlen : l.length ≤ 1000000) : ∀ (n i : Nat) (acc : List S44), l.length - i = n → i ≤ l.length → acc = lessL (l.take i) v →
    Ev (fun k => lin_Put.l0 k v l (l.length : Int) i K l K2 l2 K acc) (sumR (putS K l v K2 l2)) := by
  intro n
  induction n with
  | zero =>
    intro i acc h1 h2 hacc
    rw [List.take_of_length_le (by omega)] at hacc
    subst hacc
    refine Ev.succ (Ev.of (Ev.bind (g := fun k t => (lin_sum.f [⟨⟨K, lessL l v⟩, 1⟩, ⟨⟨K2, l2⟩, t⟩]).bind fun bt => some (bt.1, bt.2.1, bt.2.2)) (linBy_ev K l v (by omega)) (Ev.now fun _ => ?_)) fun k => ?_)
    · have := sum_eq (putS K l v K2 l2) hG (by simp [putS])
      unfold putS at this ⊢
      rw [this]; rfl
    · simp only [lin_Put.l0]
      rw [if_neg (by omega)]
  | succ n ih =>
    intro i acc h1 h2 hacc
    have hi : i < l.length := by omega
    have hal : acc.length ≤ 1000000 := by
      rw [hacc]
      have := List.length_filter_le (fun m : S44 => decide (m.f0 ≠ v)) (l.take i)
      unfold lessL
      rw [List.length_take] at this
      omega
    by_cases e : l[i].f0 = v
    · refine Ev.succ (Ev.of (ih (i+1) acc (by omega) (by omega) ?_) fun k => ?_)
      · rw [hacc, List.take_succ_eq_append_getElem hi]
        unfold lessL
        rw [List.filter_append, List.filter_cons, if_neg (by simp [e])]; simp
      · simp only [lin_Put.l0]
        rw [if_pos (by omega), if_pos (by omega), if_pos (by omega), rdM_at l i hi, if_pos e, w64 (by omega) (by omega)]; rfl
    · refine Ev.succ (Ev.of (ih (i+1) (acc ++ [l[i]]) (by omega) (by omega) ?_) fun k => ?_)
      · rw [hacc, List.take_succ_eq_append_getElem hi]
        unfold lessL
        rw [List.filter_append, List.filter_cons, if_pos (by simp [e])]; simp
      · simp only [lin_Put.l0]
        rw [if_pos (by omega), if_pos (by omega), if_pos (by omega), rdM_at l i hi, if_neg e, if_pos (by omega), w64 (by omega) (by omega)]; rfl
theorem linPut_ev (K : Int) (l : List S44) (v : Int) (K2 : Int) (l2 : List S44) (hK : R64 K) (hl : M64 l) (hlen : l.length ≤ 1000000) (hK2 : R64 K2) (hl2 : M64 l2) (hlen2 : l2.length ≤ 1000000) : Ev (fun k => lin_Put.f k K l v K2 l2) (putD K l v K2 l2) := by
  have h := linright_ev [⟨K, l⟩, ⟨K2, l2⟩] (by simp) (by
    intro q hq
    simp at hq
    rcases hq with e | e
    · subst e; exact (show l.length ≤ _ by omega)
    · subst e; exact (show l2.length ≤ _ by omega))
  refine Ev.bind h ?_
  simp only [List.all_cons, List.all_nil, Bool.and_true]
  unfold putD
  by_cases e : rightL (-1) l = true ∧ rightL (-1) l2 = true
  · rw [if_pos e]
    exact Ev.pos (by rw [e.1, e.2]; rfl) (put_l0 K l v K2 l2 (putS_G67 v hK hl e.1 hK2 hl2 e.2) hlen _ 0 [] rfl (by omega) rfl)
  · rw [if_neg e]
    exact Ev.neg (by simpa using e) (Ev.now fun _ => rfl)
theorem putD_fine (K : Int) (l : List S44) (v : Int) (K2 : Int) (l2 : List S44) : R64 (putD K l v K2 l2).1 ∧ M64 (putD K l v K2 l2).2.1 ∧ (putD K l v K2 l2).2.1.length ≤ 64 ∧ rightL (-1) (putD K l v K2 l2).2.1 = true := by
  unfold putD
  split
  · exact sumR_fine _
  · exact ⟨⟨by simp, by simp⟩, (by intro m hm; cases hm), by simp, rfl⟩
theorem coefI_none : ∀ (l : List S44) (last : Int), rightL last l = true → ∀ v : Int, v ≤ last → coefI l v = 0 := by
  intro l
  induction l with
  | nil => intro _ _ _ _; rfl
  | cons m l ih =>
    intro last h v hv
    simp only [rightL, Bool.and_eq_true, decide_eq_true_eq] at h
    simp only [coefI]
    rw [if_neg (by omega), ih m.f0 h.2 v (by omega)]
theorem xv_set (x : List Int) (n : Nat) (c : Int) (hn : n < x.length) (u : Nat) : xv (x.set n c) u = if u = n then c else xv x u := by
  unfold xv
  rw [List.length_set]
  by_cases e : u = n
  · subst e
    rw [if_pos rfl, if_pos (by omega), rd_at _ u (by rw [List.length_set]; exact hn)]
    simp
  · rw [if_neg e]
    by_cases h : u < x.length
    · rw [if_pos (by omega), if_pos (by omega), rd_at _ u (by rw [List.length_set]; exact h), rd_at _ u h, List.getElem_set_ne (by omega)]
    · rw [if_neg (by omega), if_neg (by omega)]
theorem valL_set (x : List Int) (n : Nat) (c : Int) (hn : n < x.length) : ∀ (l : List S44) (last : Int), rightL last l = true → -1 ≤ last → valL l (x.set n c) = valL (lessL l n) x + coefI l n * c := by
  intro l
  induction l with
  | nil => intro _ _ _; simp [lessL, coefI, valL]
  | cons m l ih =>
    intro last h hl
    simp only [rightL, Bool.and_eq_true, decide_eq_true_eq] at h
    have hI := ih m.f0 h.2 (by omega)
    rw [valL_cons m l _ (by omega), hI, xv_set x n c hn]
    simp only [coefI]
    unfold lessL
    rw [List.filter_cons]
    by_cases e : m.f0 = (n : Int)
    · rw [if_pos e, if_pos (by omega), if_neg (by simp [e]), coefI_none l m.f0 h.2 n (by omega), Int.zero_mul]
      omega
    · rw [if_neg e, if_neg (by omega), if_pos (by simp [e]), valL_cons m _ x (by omega)]
      omega
theorem mod64 (n : Nat) (h : n < 18446744073709551616) : (n:Int) % 18446744073709551616 = n := by omega
theorem tdiv_nat (a b : Nat) : Int.tdiv (a:Int) (b:Int) = ((a / b : Nat) : Int) := (Int.ofNat_tdiv a b).symm
/-- The least common multiple of the sizes, if it fits. -/
def lcmS (a b : Int) : Int × Bool := if a = 0 ∨ b = 0 then (0, true) else fit (a.natAbs / Nat.gcd a.natAbs b.natAbs * b.natAbs)
theorem Lcm_zero (a b : Int) (h : a = 0 ∨ b = 0) : ∀ k, num_Lcm.f (k + 1) a b = some (0, true) := by
  intro k
  unfold num_Lcm.f
  by_cases e : a = 0
  · rw [if_pos e]; simp only [num_Lcm.j0, if_true]
  · have hb : b = 0 := by omega
    rw [if_neg e, show (b == 0) = true from beq_iff_eq.2 hb]; simp only [num_Lcm.j0, if_true]
theorem Lcm_ev {a b : Int} (h1 : -9223372036854775808 ≤ a) (h2 : a ≤ 9223372036854775807) (h3 : -9223372036854775808 ≤ b) (h4 : b ≤ 9223372036854775807) :
    ∃ K, ∀ k, K ≤ k → num_Lcm.f k a b = some (lcmS a b) := by
  unfold lcmS
  by_cases z : a = 0 ∨ b = 0
  · rw [if_pos z]
    refine ⟨1, fun k hk => ?_⟩
    obtain ⟨m, rfl⟩ : ∃ m, k = m + 1 := ⟨k - 1, by omega⟩
    exact Lcm_zero a b z m
  rw [if_neg z]
  obtain ⟨K, ev⟩ := common_ev a.natAbs b.natAbs (by omega) (by omega)
  refine ⟨K + 1, fun k hk => ?_⟩
  obtain ⟨m, rfl⟩ : ∃ m, k = m + 1 := ⟨k - 1, by omega⟩
  have hg0 : Nat.gcd a.natAbs b.natAbs ≠ 0 := Nat.gcd_ne_zero_left (by omega)
  have hle : a.natAbs / Nat.gcd a.natAbs b.natAbs ≤ a.natAbs := Nat.div_le_self _ _
  unfold num_Lcm.f
  rw [if_neg (by omega), show (b == 0) = false from beq_eq_false_iff_ne.2 (by omega)]
  simp only [num_Lcm.j0, Bool.false_eq_true, if_false]
  rw [size_eq h1 h2, size_eq h3 h4]
  simp only [Option.bind_some]
  rw [ev m (by omega)]
  simp only [Option.bind_some]
  rw [if_neg (by omega), tdiv_nat, u64w, mod64 (a.natAbs / Nat.gcd a.natAbs b.natAbs) (by omega)]
  rw [Mul64_eq _ _ (by omega) (by omega)]
  simp only [Option.bind_some]
  generalize a.natAbs / Nat.gcd a.natAbs b.natAbs * b.natAbs = p
  by_cases e : p < 18446744073709551616
  · rw [if_neg (by omega), Nat.mod_eq_of_lt e, signed_ev p e]; rfl
  · rw [if_pos (by omega)]
    unfold fit
    rw [if_neg (by omega)]
def GF (q : S41) : Prop := R64 q.f0 ∧ M64 q.f1 ∧ rightL (-1) q.f1 = true
def vF (y : List Int) (q : S41) : Int := q.f0 + valL q.f1 y
theorem GF.len {q : S41} (h : GF q) : q.f1.length ≤ 64 := by
  have := rightL_len q.f1 (-1) (by omega) h.2.2
  omega
theorem coef_append29 (a b : List S44) (v : Nat) : coef (a ++ b) v = coef a v + coef b v := by
  induction a with
  | nil => simp [coef]
  | cons m a ih => simp only [List.cons_append, coef]; rw [ih]; omega
theorem coef_linOf29 (c : Nat → Int) (v : Nat) : ∀ n, coef (linOf c n) v = if v < n then c v else 0 := by
  intro n
  induction n with
  | zero => rfl
  | succ n ih =>
    rw [linOf_succ, coef_append29, ih]
    by_cases e : c n = 0
    · rw [if_pos e]
      by_cases h : v < n
      · rw [if_pos h, if_pos (by omega)]; simp [coef]
      · rw [if_neg h]
        by_cases h2 : v = n
        · subst h2; rw [if_pos (by omega), e]; rfl
        · rw [if_neg (by omega)]; rfl
    · rw [if_neg e]
      rw [show coef [(⟨(n:Int), c n⟩ : S44)] v = (if (n:Int) = (v:Int) then c n else 0) + 0 from rfl]
      by_cases h : v < n
      · rw [if_pos h, if_pos (show v < n + 1 by omega), if_neg (show ¬ (n:Int) = (v:Int) by omega)]; omega
      · rw [if_neg h]
        by_cases h2 : v = n
        · subst h2; rw [if_pos rfl, if_pos (show v < v + 1 by omega)]; omega
        · rw [if_neg (show ¬ (n:Int) = (v:Int) by omega), if_neg (show ¬ v < n + 1 by omega)]; rfl
theorem coefI_linOf (c : Nat → Int) (v : Nat) (hv : v < 64) : coefI (linOf c 64) v = c v := by
  rw [coefI_coef _ (-1) (linOf_right c 64 (by omega)) (by omega), coef_linOf29, if_pos hv]
theorem coefI_zero : ∀ (l : List S44) (v : Int), (∀ m ∈ l, m.f0 ≠ v) → coefI l v = 0 := by
  intro l
  induction l with
  | nil => intro _ _; rfl
  | cons a l ih =>
    intro v h
    simp only [coefI]
    rw [if_neg (h a (List.mem_cons_self ..)), ih v (fun m hm => h m (List.mem_cons_of_mem _ hm))]
theorem coefI_ex (l : List S44) (v : Int) (h : coefI l v ≠ 0) : ∃ m ∈ l, m.f0 = v :=
  Classical.byContradiction fun hn => h (coefI_zero l v fun m hm e => hn ⟨m, hm, e⟩)
theorem coefI_mem : ∀ (l : List S44) (last : Int), rightL last l = true → ∀ m ∈ l, coefI l m.f0 = m.f1 := by
  intro l
  induction l with
  | nil => intro _ _ m hm; cases hm
  | cons a l ih =>
    intro last h m hm
    simp only [rightL, Bool.and_eq_true, decide_eq_true_eq] at h
    simp only [coefI]
    rcases List.mem_cons.1 hm with e | e
    · subst e; rw [if_pos rfl]
    · have := (rightL_mem l a.f0 h.2 m e).1
      rw [if_neg (by omega)]; exact ih a.f0 h.2 m e
theorem coefI_far {q : S41} (h : GF q) (v : Int) (hv : v < 0 ∨ 64 ≤ v) : coefI q.f1 v = 0 :=
  coefI_zero _ _ fun m hm e => by have := rightL_vars h.2.2 m hm; omega
theorem coefI_less (v u : Int) : ∀ l : List S44, coefI (lessL l v) u = if u = v then 0 else coefI l u := by
  intro l
  induction l with
  | nil => simp [lessL, coefI]
  | cons a l ih =>
    unfold lessL at ih ⊢
    rw [List.filter_cons]
    by_cases e : a.f0 = v
    · rw [if_neg (by simp [e]), ih]
      simp only [coefI]
      by_cases e2 : u = v
      · rw [if_pos e2, if_pos e2]
      · rw [if_neg e2, if_neg e2, if_neg (by omega)]
    · rw [if_pos (by simp [e])]
      simp only [coefI]
      by_cases e2 : u = v
      · rw [if_pos e2, if_neg (by omega), ih, if_pos e2]
      · rw [if_neg e2, ih, if_neg e2]
theorem putD_G (K : Int) (l : List S44) (v : Int) (K2 : Int) (l2 : List S44) : GF ⟨(putD K l v K2 l2).1, (putD K l v K2 l2).2.1⟩ :=
  ⟨(putD_fine K l v K2 l2).1, (putD_fine K l v K2 l2).2.1, (putD_fine K l v K2 l2).2.2.2⟩
theorem putD_coef {q t : S41} (hq : GF q) (ht : GF t) (v : Int) (ho : (putD q.f0 q.f1 v t.f0 t.f1).2.2 = 0) (u : Int) : coefI (putD q.f0 q.f1 v t.f0 t.f1).2.1 u = (if u = v then 0 else coefI q.f1 u) + coefI t.f1 u * coefI q.f1 v := by
  by_cases hu : 0 ≤ u ∧ u < 64
  · obtain ⟨n, rfl⟩ : ∃ n : Nat, u = n := ⟨u.toNat, by omega⟩
    unfold putD at ho ⊢
    rw [if_pos ⟨hq.2.2, ht.2.2⟩] at ho ⊢
    unfold sumR at ho ⊢
    split at ho
    · rename_i e
      rw [if_pos e]
      simp only
      rw [coefI_linOf _ n (by omega)]
      simp only [putS, csum]
      rw [← coefI_coef _ (-1) (lessL_right v q.f1 (-1) hq.2.2) (by omega), ← coefI_coef _ (-1) ht.2.2 (by omega), coefI_less]
      omega
    · simp at ho
  · have h1 := coefI_far (putD_G q.f0 q.f1 v t.f0 t.f1) u (by omega)
    simp only at h1
    rw [h1, coefI_far hq u (by omega), coefI_far ht u (by omega)]
    split <;> simp
theorem putD_val {q t : S41} (hq : GF q) (ht : GF t) (v : Nat) (y : List Int) (hv : v < y.length) (ho : (putD q.f0 q.f1 v t.f0 t.f1).2.2 = 0) :
    vF y ⟨(putD q.f0 q.f1 v t.f0 t.f1).1, (putD q.f0 q.f1 v t.f0 t.f1).2.1⟩ = vF (y.set v (vF y t)) q := by
  unfold vF
  rw [valL_set y v _ hv q.f1 (-1) hq.2.2 (by omega)]
  unfold putD at ho ⊢
  rw [if_pos ⟨hq.2.2, ht.2.2⟩] at ho ⊢
  simp only
  rw [sumR_val y _ (putS_G67 (v : Int) hq.1 hq.2.1 hq.2.2 ht.1 ht.2.1 ht.2.2) ho]
  simp only [putS, vS]
  rw [Int.mul_comm (coefI q.f1 v)]
  omega
theorem wrap_R64 (n : Int) : R64 (wrap64 n) := by unfold R64 wrap64; omega
theorem Neg29 {a : Int} (h : R64 a) : num_Neg.f a = some (fitI (-a)) := by
  unfold num_Neg.f
  rw [Sub_eq (by omega) (by omega) h.1 h.2]
  simp only [Option.bind_some]
  rw [Int.zero_sub]
theorem fitI_ok {n : Int} (h : (fitI n).2 = true) : R64 n ∧ (fitI n).1 = n := by
  unfold fitI at h ⊢
  split at h
  · rename_i e; rw [if_pos e]; exact ⟨e, rfl⟩
  · cases h
theorem Div29 {a b : Int} (ha : R64 a) (hb : R64 b) (h0 : b ≠ 0) : ∃ q, num_Div.f a b = some q ∧ R64 q.1 ∧ (q.2 = true → (a - q.1 * b).natAbs < b.natAbs) := by
  by_cases ho : Over a b
  · refine ⟨(0, false), ?_, by simp [R64], by simp⟩
    unfold num_Div.f
    rw [over_true ho]; rfl
  · have hf := tmod_facts a b h0
    have hT := tdiv_in ha.1 ha.2 ho
    have hR := wrap_R64 (Int.tdiv a b)
    rw [hT] at hR
    have hA := ha.1
    have hA2 := ha.2
    unfold num_Div.f
    rw [over_false ho]
    simp only [Option.bind_some]
    rw [if_neg (by simp), if_neg h0, hT]
    have e : a - Int.tdiv a b * b = Int.tmod a b := by rw [Int.mul_comm]; omega
    by_cases z : Int.tmod a b = 0
    · rw [if_pos z]
      exact ⟨_, rfl, hR, fun _ => by simp only; omega⟩
    · rw [if_neg z]
      split
      · rename_i hs
        refine ⟨_, rfl, wrap_R64 _, fun _ => ?_⟩
        have h2 : 2 ≤ b.natAbs := by omega
        have h3 := tdiv_two a b h2
        simp only
        rw [w64 (by omega) (by omega), Int.sub_mul]
        have hs2 : (a < 0) ≠ (b < 0) := by
          intro hh
          rw [show decide (a < 0) = decide (b < 0) from by rw [decide_eq_decide, hh]] at hs
          simp at hs
        by_cases a0 : a < 0
        · have b0 : ¬ b < 0 := fun hb => hs2 (by simp [a0, hb])
          have := hf.2.2.1 (by omega)
          omega
        · have b0 : b < 0 := by
            by_cases hb : b < 0
            · exact hb
            · exact absurd (by simp [a0, hb]) hs2
          have := hf.2.1 (by omega)
          omega
      · exact ⟨_, rfl, hR, fun _ => by simp only; omega⟩
theorem Mod29 {a b : Int} (hb : R64 b) (h0 : b ≠ 0) : ∃ m, num_Mod.f a b = some m ∧ (m.1 = 0 → b ∣ a) := by
  have hf := tmod_facts a b h0
  unfold num_Mod.f
  rw [if_neg h0]
  by_cases z : Int.tmod a b = 0
  · rw [if_pos z]
    exact ⟨_, rfl, fun _ => Int.dvd_of_tmod_eq_zero z⟩
  · rw [if_neg z]
    split
    · rename_i hs
      refine ⟨_, rfl, fun h => ?_⟩
      simp only at h
      have := hb.1
      have := hb.2
      have hs2 : (Int.tmod a b < 0) ≠ (b < 0) := by
        intro hh
        rw [show decide (Int.tmod a b < 0) = decide (b < 0) from by rw [decide_eq_decide, hh]] at hs
        simp at hs
      exfalso
      by_cases a0 : Int.tmod a b < 0
      · have b0 : ¬ b < 0 := fun hb => hs2 (by simp [a0, hb])
        rw [w64 (by omega) (by omega)] at h
        omega
      · have b0 : b < 0 := by
          by_cases hb : b < 0
          · exact hb
          · exact absurd (by simp [a0, hb]) hs2
        rw [w64 (by omega) (by omega)] at h
        omega
    · exact ⟨_, rfl, fun h => absurd h z⟩
def RowOK (N : Nat) (r : S88) : Prop := r.f2 = true → r.f0.length = N ∧ 1 ≤ r.f1 ∧ r.f1 ≤ 9223372036854775807 ∧ I64 r.f0
def RowQ (N : Nat) (q : List Int × Int × Bool) : Prop := q.2.2 = true → q.1.length = N ∧ 1 ≤ q.2.1 ∧ q.2.1 ≤ 9223372036854775807 ∧ I64 q.1
theorem RowQ_no (N : Nat) : RowQ N ([], 0, false) := fun h => by cases h
theorem I64_set {x : List Int} (h : I64 x) (i : Nat) (n : Int) (hn : R64 n) : I64 (x.set i n) := by
  intro y hy
  rcases List.mem_or_eq_of_mem_set hy with e | e
  · exact h y e
  · subst e; exact hn
theorem I64_app {x : List Int} (h : I64 x) (n : Int) (hn : R64 n) : I64 (x ++ [n]) := by
  intro y hy
  rcases List.mem_append.1 hy with e | e
  · exact h y e
  · rw [List.mem_singleton] at e; subst e; exact hn
theorem less_l1 (g dv : Int) (b : Bool) (hg : g ≠ 0) : ∀ (n i : Nat) (xs : List Int), xs.length - i = n → i ≤ xs.length → xs.length ≤ 1000000 → I64 xs →
    ∃ ys : List Int, Ev (fun k => euclid_row_less.l1 k g (xs.length : Int) i xs dv b) (ys, dv, b) ∧ ys.length = xs.length ∧ I64 ys := by
  intro n
  induction n with
  | zero =>
    intro i xs h1 h2 _ h3
    refine ⟨xs, Ev.succ ?_, rfl, h3⟩
    simp only [euclid_row_less.l1]
    exact Ev.neg (by omega) (Ev.now fun _ => rfl)
  | succ n ih =>
    intro i xs h1 h2 h4 h3
    obtain ⟨ys, e, hl, hI⟩ := ih (i+1) (xs.set i (wrap64 (Int.tdiv (rd xs i) g))) (by rw [List.length_set]; omega) (by rw [List.length_set]; omega) (by rw [List.length_set]; omega) (I64_set h3 _ _ (wrap_R64 _))
    rw [List.length_set] at hl e
    refine ⟨ys, Ev.succ ?_, hl, hI⟩
    simp only [euclid_row_less.l1]
    rw [show wrap64 ((i:Int) + 1) = ((i+1 : Nat) : Int) by rw [w64 (by omega) (by omega)]; omega]
    exact Ev.pos (by omega) (Ev.pos (by omega) (Ev.pos (by omega) (Ev.neg hg e)))
theorem less_l0 (N : Nat) (x y : Int) (hx : R64 x) (hy : R64 y) (rb sb : List Int) (r1 s1 : Int) (r2 s2 : Bool) (hr : I64 rb) (hs : I64 sb) (hlr : rb.length = N) (hls : sb.length = N) (hN : N ≤ 1000000) (dv : Int) (hd : 1 ≤ dv) (hd2 : dv ≤ 9223372036854775807) :
    ∀ (n i : Nat) (acc all : List Int), N - i = n → i ≤ N → acc.length = i → all.length = i + 1 → I64 acc → I64 all → dv ∈ all →
    ∃ q, Ev (fun k => euclid_row_less.l0 k x y all (rb.length : Int) i rb r1 r2 sb s1 s2 acc dv true) q ∧ RowQ N q := by
  intro n
  induction n with
  | zero =>
    intro i acc all h1 h2 h3 h4 h5 h6 h7
    have hG : Ev (fun k => num_Gcd.f k all) (fit (gcdL all 0)) := Gcd_ev all (by omega) h6
    have hgd := (gcdL_dvd all 0).2 dv h7
    have hgp : gcdL all 0 ≠ 0 := by
      intro e
      rw [e] at hgd
      have := Nat.eq_zero_of_zero_dvd hgd
      omega
    have main : ∃ q, Ev (fun k => euclid_row_less.j3 k (fit (gcdL all 0)).1 ((fit (gcdL all 0)).1 == 0) acc dv true) q ∧ RowQ N q := by
      by_cases hz : (fit (gcdL all 0)).1 = 0
      · refine ⟨([], 0, false), Ev.succ ?_, RowQ_no N⟩
        simp only [euclid_row_less.j3]
        exact Ev.pos (by simp [hz]) (Ev.now fun _ => rfl)
      · have hf : (fit (gcdL all 0)).1 = (gcdL all 0 : Int) := by
          unfold fit at hz ⊢
          split at hz
          · rename_i e; rw [if_pos e]
          · simp at hz
        obtain ⟨ys, e, hl, hI⟩ := less_l1 (fit (gcdL all 0)).1 (wrap64 (Int.tdiv dv (fit (gcdL all 0)).1)) true hz _ 0 acc rfl (by omega) (by omega) h5
        refine ⟨(ys, wrap64 (Int.tdiv dv (fit (gcdL all 0)).1), true), Ev.succ ?_, fun _ => ⟨by simp only; omega, ?_, (wrap_R64 _).2, hI⟩⟩
        · simp only [euclid_row_less.j3]
          exact Ev.neg (by simp [hz]) (Ev.neg hz e)
        · simp only
          rw [hf]
          obtain ⟨c, hc⟩ := hgd
          have h8 : Int.tdiv dv (gcdL all 0 : Int) = c := by
            have : dv = ((gcdL all 0 : Nat) : Int) * (c : Int) := by rw [← Int.natCast_mul, ← hc]; omega
            rw [this, Int.mul_tdiv_cancel_left _ (by omega)]
          have hc0 : c ≠ 0 := by intro e0; rw [e0] at hc; omega
          have hcl : c ≤ dv.natAbs := by rw [hc]; exact Nat.le_mul_of_pos_left _ (by omega)
          rw [h8, w64 (by omega) (by omega)]
          omega
    by_cases hok : (fit (gcdL all 0)).2 = true
    · obtain ⟨q, e, hq⟩ := main
      refine ⟨q, Ev.succ ?_, hq⟩
      simp only [euclid_row_less.l0]
      exact Ev.neg (by omega) (Ev.bind hG (Ev.pos hok e))
    · refine ⟨([], 0, false), Ev.succ ?_, RowQ_no N⟩
      simp only [euclid_row_less.l0]
      refine Ev.neg (by omega) (Ev.bind hG (Ev.neg hok (Ev.succ ?_)))
      simp only [euclid_row_less.j3]
      exact Ev.pos trivial (Ev.now fun _ => rfl)
  | succ n ih =>
    intro i acc all h1 h2 h3 h4 h5 h6 h7
    have hp := Mul_eq (rd_R64 hr i).1 (rd_R64 hr i).2 hx.1 hx.2
    have hq := Mul_eq (rd_R64 hs i).1 (rd_R64 hs i).2 hy.1 hy.2
    have fR : ∀ n : Int, R64 (fitI n).1 := fun n => by
      unfold fitI
      split
      · assumption
      · exact ⟨by simp, by simp⟩
    have hn := Sub_eq (fR (rd rb i * x)).1 (fR (rd rb i * x)).2 (fR (rd sb i * y)).1 (fR (rd sb i * y)).2
    have pre : ∀ q, Ev (fun k => if (fitI (rd rb i * x)).2 = true then (if (fitI (rd sb i * y)).2 = true then (if (fitI ((fitI (rd rb i * x)).1 - (fitI (rd sb i * y)).1)).2 = true then euclid_row_less.l0 k x y (all ++ [(fitI ((fitI (rd rb i * x)).1 - (fitI (rd sb i * y)).1)).1]) (rb.length : Int) ((i + 1 : Nat) : Int) rb r1 r2 sb s1 s2 (acc ++ [(fitI ((fitI (rd rb i * x)).1 - (fitI (rd sb i * y)).1)).1]) dv true else some ([], 0, false)) else some ([], 0, false)) else some ([], 0, false)) q →
        Ev (fun k => euclid_row_less.l0 k x y all (rb.length : Int) i rb r1 r2 sb s1 s2 acc dv true) q := by
      intro q e
      refine Ev.succ ?_
      simp only [euclid_row_less.l0]
      refine Ev.pos (by omega) (Ev.pos (by omega) (Ev.pos (by omega) (Ev.bind (Ev.now fun _ => hp) (Ev.pos (by omega) (Ev.bind (Ev.now fun _ => hq) (Ev.bind (Ev.now fun _ => hn) ?_))))))
      rw [show wrap64 ((i:Int) + 1) = ((i+1 : Nat) : Int) by rw [w64 (by omega) (by omega)]; omega]
      refine e.of fun k => ?_
      simp only [if_pos (show acc.length < 17592186044416 by omega), if_pos (show all.length < 17592186044416 by omega)]
    obtain ⟨q, e, hqq⟩ := ih (i+1) (acc ++ [(fitI ((fitI (rd rb i * x)).1 - (fitI (rd sb i * y)).1)).1]) (all ++ [(fitI ((fitI (rd rb i * x)).1 - (fitI (rd sb i * y)).1)).1]) (by omega) (by omega) (by simp [h3]) (by simp [h4]) (I64_app h5 _ (fR _)) (I64_app h6 _ (fR _)) (List.mem_append_left _ h7)
    by_cases b1 : (fitI (rd rb i * x)).2 = true
    · by_cases b2 : (fitI (rd sb i * y)).2 = true
      · by_cases b3 : (fitI ((fitI (rd rb i * x)).1 - (fitI (rd sb i * y)).1)).2 = true
        · exact ⟨q, pre q (Ev.pos b1 (Ev.pos b2 (Ev.pos b3 e))), hqq⟩
        · exact ⟨_, pre _ (Ev.pos b1 (Ev.pos b2 (Ev.neg b3 (Ev.now fun _ => rfl)))), RowQ_no N⟩
      · exact ⟨_, pre _ (Ev.pos b1 (Ev.neg b2 (Ev.now fun _ => rfl))), RowQ_no N⟩
    · exact ⟨_, pre _ (Ev.neg b1 (Ev.now fun _ => rfl)), RowQ_no N⟩
theorem less_j1 (N : Nat) (r s : S88) (c a : Int) (hr : RowOK N r) (hs : RowOK N s) (r2 : r.f2 = true) (s2 : s.f2 = true) (hc : R64 c) (ha : R64 a) (h0 : a ≠ 0) (hN : N ≤ 1000000) :
    ∃ q, Ev (fun k => euclid_row_less.j1 k c a r.f0 r.f1 true s.f0 s.f1 s.f2) q ∧ RowQ N q := by
  obtain ⟨r3, r4, r5, r6⟩ := hr r2
  obtain ⟨s3, s4, s5, s6⟩ := hs s2
  have hm := Mul_eq ha.1 ha.2 (show -9223372036854775808 ≤ s.f1 by omega) s5
  have key : ∀ q, Ev (fun k => if (fitI (a * s.f1)).2 = true then ((num_Lcm.f k r.f1 (fitI (a * s.f1)).1).bind fun bt222 => (if bt222.2 = true then (if r.f1 = 0 then (none) else (if (fitI (a * s.f1)).1 = 0 then (none) else ((num_Mul.f c (wrap64 (Int.tdiv bt222.1 (fitI (a * s.f1)).1))).bind fun bt224 => (if bt224.2 = true then (euclid_row_less.l0 k (wrap64 (Int.tdiv bt222.1 r.f1)) bt224.1 (([bt222.1] : List Int)) (r.f0.length : Int) 0 r.f0 r.f1 true s.f0 s.f1 s.f2 ([] : List Int) bt222.1 true) else (some (([] : List Int), 0, false)))))) else (some (([] : List Int), 0, false)))) else (some (([] : List Int), 0, false))) q → Ev (fun k => euclid_row_less.j1 k c a r.f0 r.f1 true s.f0 s.f1 s.f2) q := by
    intro q e
    refine Ev.succ ?_
    simp only [euclid_row_less.j1]
    exact Ev.bind (Ev.now fun _ => hm) e
  by_cases b1 : (fitI (a * s.f1)).2 = true
  · obtain ⟨hl, hl2⟩ := fitI_ok b1
    have hl0 : (fitI (a * s.f1)).1 ≠ 0 := by rw [hl2]; exact Int.mul_ne_zero h0 (by omega)
    have hL : Ev (fun k => num_Lcm.f k r.f1 (fitI (a * s.f1)).1) (lcmS r.f1 (fitI (a * s.f1)).1) := Lcm_ev (by omega) r5 (by rw [hl2]; exact hl.1) (by rw [hl2]; exact hl.2)
    by_cases b2 : (lcmS r.f1 (fitI (a * s.f1)).1).2 = true
    · have hd : 1 ≤ (lcmS r.f1 (fitI (a * s.f1)).1).1 ∧ (lcmS r.f1 (fitI (a * s.f1)).1).1 ≤ 9223372036854775807 := by
        generalize (fitI (a * s.f1)).1 = z at *
        unfold lcmS at b2 ⊢
        rw [if_neg (by omega)] at b2 ⊢
        unfold fit at b2 ⊢
        split at b2
        · rename_i e
          rw [if_pos e]
          have h1 : 0 < r.f1.natAbs / Nat.gcd r.f1.natAbs z.natAbs := Nat.div_pos (Nat.le_of_dvd (by omega) (Nat.gcd_dvd_left _ _)) (Nat.gcd_pos_of_pos_left _ (by omega))
          have h2 : 0 < r.f1.natAbs / Nat.gcd r.f1.natAbs z.natAbs * z.natAbs := Nat.mul_pos h1 (by omega)
          simp only
          omega
        · cases b2
      have hM := Mul_eq hc.1 hc.2 (wrap_R64 (Int.tdiv (lcmS r.f1 (fitI (a * s.f1)).1).1 (fitI (a * s.f1)).1)).1 (wrap_R64 (Int.tdiv (lcmS r.f1 (fitI (a * s.f1)).1).1 (fitI (a * s.f1)).1)).2
      by_cases b3 : (fitI (c * wrap64 (Int.tdiv (lcmS r.f1 (fitI (a * s.f1)).1).1 (fitI (a * s.f1)).1))).2 = true
      · obtain ⟨h3, h4⟩ := fitI_ok b3
        obtain ⟨q, e, hq⟩ := less_l0 N (wrap64 (Int.tdiv (lcmS r.f1 (fitI (a * s.f1)).1).1 r.f1)) (fitI (c * wrap64 (Int.tdiv (lcmS r.f1 (fitI (a * s.f1)).1).1 (fitI (a * s.f1)).1))).1 (wrap_R64 _) (by rw [h4]; exact h3) r.f0 s.f0 r.f1 s.f1 true s.f2 r6 s6 r3 s3 hN (lcmS r.f1 (fitI (a * s.f1)).1).1 hd.1 hd.2 N 0 [] [(lcmS r.f1 (fitI (a * s.f1)).1).1] rfl (by omega) rfl rfl (by intro x hx; cases hx)
          (by intro x hx; rw [List.mem_singleton] at hx; subst hx; omega) (by simp)
        exact ⟨q, key q (Ev.pos b1 (Ev.bind hL (Ev.pos b2 (Ev.neg (by omega) (Ev.neg hl0 (Ev.bind (Ev.now fun _ => hM) (Ev.pos b3 e))))))), hq⟩
      · exact ⟨_, key _ (Ev.pos b1 (Ev.bind hL (Ev.pos b2 (Ev.neg (by omega) (Ev.neg hl0 (Ev.bind (Ev.now fun _ => hM) (Ev.neg b3 (Ev.now fun _ => rfl)))))))), RowQ_no N⟩
    · exact ⟨_, key _ (Ev.pos b1 (Ev.bind hL (Ev.neg b2 (Ev.now fun _ => rfl)))), RowQ_no N⟩
  · exact ⟨_, key _ (Ev.neg b1 (Ev.now fun _ => rfl)), RowQ_no N⟩
theorem less_ev (N : Nat) (r s : S88) (c a : Int) (hr : RowOK N r) (hs : RowOK N s) (hc : R64 c) (ha : R64 a) (h0 : a ≠ 0) (hN : N ≤ 1000000) :
    ∃ q, Ev (fun k => euclid_row_less.f k r.f0 r.f1 r.f2 s.f0 s.f1 s.f2 c a) q ∧ RowQ N q ∧ (r.f2 = false → q = ([], 0, false)) := by
  have hj : ∀ b, Ev (fun k => euclid_row_less.j0 k c a true r.f0 r.f1 b s.f0 s.f1 s.f2) ([], 0, false) := by
    intro b
    refine Ev.succ ?_
    simp only [euclid_row_less.j0]
    exact Ev.pos trivial (Ev.now fun _ => rfl)
  by_cases r2 : r.f2 = true
  · rw [r2]
    by_cases s2 : s.f2 = true
    · have main : ∃ q, Ev (fun k => euclid_row_less.j0 k c a (!s.f2) r.f0 r.f1 true s.f0 s.f1 s.f2) q ∧ RowQ N q := by
        by_cases an : a < 0
        · by_cases b1 : (fitI (-a)).2 = true
          · by_cases b2 : (fitI (-c)).2 = true
            · obtain ⟨a1, a2⟩ := fitI_ok b1
              obtain ⟨c1, c2⟩ := fitI_ok b2
              obtain ⟨q, e, hq⟩ := less_j1 N r s (fitI (-c)).1 (fitI (-a)).1 hr hs r2 s2 (by rw [c2]; exact c1) (by rw [a2]; exact a1) (by rw [a2]; omega) hN
              refine ⟨q, Ev.succ ?_, hq⟩
              simp only [euclid_row_less.j0]
              exact Ev.neg (by simp [s2]) (Ev.pos an (Ev.bind (Ev.now fun _ => Neg29 ha) (Ev.bind (Ev.now fun _ => Neg29 hc) (Ev.pos b1 (Ev.pos b2 e)))))
            · refine ⟨_, Ev.succ ?_, RowQ_no N⟩
              simp only [euclid_row_less.j0]
              exact Ev.neg (by simp [s2]) (Ev.pos an (Ev.bind (Ev.now fun _ => Neg29 ha) (Ev.bind (Ev.now fun _ => Neg29 hc) (Ev.pos b1 (Ev.neg b2 (Ev.now fun _ => rfl))))))
          · refine ⟨_, Ev.succ ?_, RowQ_no N⟩
            simp only [euclid_row_less.j0]
            exact Ev.neg (by simp [s2]) (Ev.pos an (Ev.bind (Ev.now fun _ => Neg29 ha) (Ev.bind (Ev.now fun _ => Neg29 hc) (Ev.neg b1 (Ev.now fun _ => rfl)))))
        · obtain ⟨q, e, hq⟩ := less_j1 N r s c a hr hs r2 s2 hc ha h0 hN
          refine ⟨q, Ev.succ ?_, hq⟩
          simp only [euclid_row_less.j0]
          exact Ev.neg (by simp [s2]) (Ev.neg an e)
      obtain ⟨q, e, hq⟩ := main
      refine ⟨q, ?_, hq, fun h => by cases h⟩
      exact e.of fun k => by unfold euclid_row_less.f; rw [if_pos rfl]
    · refine ⟨_, ?_, RowQ_no N, fun h => by cases h⟩
      exact (hj true).of fun k => by unfold euclid_row_less.f; rw [if_pos rfl, show (!s.f2) = true by simpa using s2]
  · refine ⟨_, ?_, RowQ_no N, fun _ => rfl⟩
    exact (hj r.f2).of fun k => by unfold euclid_row_less.f; rw [if_neg r2]
def PivOK (N : Nat) (p : S96) : Prop := (0 ≤ p.f0 ∧ p.f0 < 64) ∧ p.f1 ≠ 0 ∧ R64 p.f1 ∧ R64 p.f2 ∧ p.f1 ∣ p.f2 ∧ RowOK N p.f3
def satP (ps : List S96) (y : List Int) : Prop := ∀ p ∈ ps, p.f1 * xv y p.f0.toNat + p.f2 = 0
def ClearP (ps : List S96) (f g : S41) : Prop := (∀ y : List Int, y.length = 64 → satP ps y → vF y g = vF y f) ∧ (∀ p ∈ ps, coefI g.f1 p.f0 = 0) ∧ ∀ v : Int, coefI f.f1 v = 0 → coefI g.f1 v = 0
theorem small_zero {a b : Int} (h : a ∣ b) (h2 : b.natAbs < a.natAbs) : b = 0 := by
  obtain ⟨c, rfl⟩ := h
  by_cases hc : c = 0
  · rw [hc, Int.mul_zero]
  · rw [Int.natAbs_mul] at h2
    have := Nat.le_mul_of_pos_right a.natAbs (show 0 < c.natAbs by omega)
    omega
theorem set_same (y : List Int) (v : Nat) (hv : v < y.length) (c : Int) (h : xv y v = c) : y.set v c = y := by
  unfold xv at h
  rw [if_pos (by omega), rd_at y v hv] at h
  rw [← h]
  exact List.set_getElem_self hv
theorem clear_l0 (N : Nat) (err : Int) (hN : N ≤ 1000000) : ∀ ps : List S96, (∀ p ∈ ps, PivOK N p) → ∀ (f : S41) (r : S88), GF f → RowOK N r →
    ∃ q : S41 × S88 × Int, Ev (fun k => euclid_clear.l0 k err ps f r) q ∧ GF q.1 ∧ RowOK N q.2.1 ∧ (q.2.2 = 0 → err = 0 ∧ ClearP ps f q.1) := by
  intro ps
  induction ps with
  | nil =>
    intro _ f r hf hr
    refine ⟨(f, r, err), Ev.now fun k => by simp only [euclid_clear.l0], hf, hr, fun h => ⟨h, fun _ _ _ => rfl, (by intro p hp; cases hp), fun _ h => h⟩⟩
  | cons p ps ih =>
    intro hps f r hf hr
    have ih := ih (fun x hx => hps x (List.mem_cons_of_mem _ hx))
    obtain ⟨⟨p1, p2⟩, p3, p4, p5, p6, p7⟩ := hps p (List.mem_cons_self ..)
    have hlen := hf.len
    have hB := linBy_ev f.f0 f.f1 p.f0 (by omega)
    by_cases hc : coefI f.f1 p.f0 = 0
    · obtain ⟨q, e, q1, q2, q3⟩ := ih f r hf hr
      refine ⟨q, ?_, q1, q2, fun h => ⟨(q3 h).1, fun y hy hs => (q3 h).2.1 y hy (fun x hx => hs x (List.mem_cons_of_mem _ hx)), fun x hx => ?_, (q3 h).2.2.2⟩⟩
      · simp only [euclid_clear.l0]
        exact Ev.bind hB (Ev.pos hc e)
      · rcases List.mem_cons.1 hx with e | e
        · subst e; exact (q3 h).2.2.2 _ hc
        · exact (q3 h).2.2.1 x e
    · obtain ⟨d, hd, dR, dv⟩ := Div29 p5 p4 p3
      by_cases hok : (d.2 && (fitI (-d.1)).2) = true
      · have hok' := hok
        rw [Bool.and_eq_true] at hok
        obtain ⟨m1, m2⟩ := fitI_ok hok.2
        have hz : p.f2 = d.1 * p.f1 := by
          have h1 : p.f1 ∣ p.f2 - d.1 * p.f1 := Int.dvd_sub p6 (Int.dvd_mul_left _ _)
          have := small_zero h1 (dv hok.1)
          omega
        have hG : GF ⟨(fitI (-d.1)).1, []⟩ := ⟨by rw [m2]; exact m1, (by intro m hm; cases hm), rfl⟩
        have hP := linPut_ev f.f0 f.f1 p.f0 (fitI (-d.1)).1 [] hf.1 hf.2.1 (by omega) hG.1 hG.2.1 (by simp)
        by_cases he : (putD f.f0 f.f1 p.f0 (fitI (-d.1)).1 []).2.2 = 0
        · obtain ⟨s, hs, s1, _⟩ := less_ev N r p.f3 (coefI f.f1 p.f0) p.f1 hr p7 (coefI_R64 _ _ hf.2.1) p4 p3 hN
          obtain ⟨q, e, q1, q2, q3⟩ := ih ⟨(putD f.f0 f.f1 p.f0 (fitI (-d.1)).1 []).1, (putD f.f0 f.f1 p.f0 (fitI (-d.1)).1 []).2.1⟩ ⟨s.1, s.2.1, s.2.2⟩ (putD_G ..) s1
          have hco := putD_coef hf hG p.f0 he
          refine ⟨q, ?_, q1, q2, fun h => ⟨(q3 h).1, fun y hy hs => ?_, fun x hx => ?_, fun v hv => ?_⟩⟩
          · simp only [euclid_clear.l0]
            exact Ev.bind hB (Ev.neg hc (Ev.bind (Ev.now fun _ => hd) (Ev.bind (Ev.now fun _ => Neg29 dR) (Ev.pos hok' (Ev.bind hP (Ev.pos he (Ev.bind hs e)))))))
          · rw [(q3 h).2.1 y hy (fun x hx => hs x (List.mem_cons_of_mem _ hx))]
            have hsp := hs p (List.mem_cons_self ..)
            have hp0 : p.f0 = (p.f0.toNat : Int) := by omega
            have hv := putD_val hf hG p.f0.toNat y (by omega) (by rw [← hp0]; exact he)
            rw [← hp0] at hv
            rw [hv]
            have hx : xv y p.f0.toNat = -d.1 := by
              rw [hz, Int.mul_comm d.1, ← Int.mul_add] at hsp
              have := (Int.mul_eq_zero.1 hsp).resolve_left p3
              omega
            rw [set_same y _ (by omega) _ (by rw [hx]; unfold vF; rw [m2]; simp [valL])]
          · rcases List.mem_cons.1 hx with e | e
            · subst e
              refine (q3 h).2.2.2 _ ?_
              simp only
              rw [hco, if_pos rfl]
              simp [coefI]
            · exact (q3 h).2.2.1 x e
          · refine (q3 h).2.2.2 _ ?_
            simp only
            rw [hco, hv]
            simp [coefI]
        · refine ⟨(f, r, (putD f.f0 f.f1 p.f0 (fitI (-d.1)).1 []).2.2), ?_, hf, hr, fun h => absurd h he⟩
          simp only [euclid_clear.l0]
          exact Ev.bind hB (Ev.neg hc (Ev.bind (Ev.now fun _ => hd) (Ev.bind (Ev.now fun _ => Neg29 dR) (Ev.pos hok' (Ev.bind hP (Ev.neg he (Ev.now fun _ => rfl)))))))
      · refine ⟨(f, r, 5), ?_, hf, hr, fun h => by simp at h⟩
        simp only [euclid_clear.l0]
        exact Ev.bind hB (Ev.neg hc (Ev.bind (Ev.now fun _ => hd) (Ev.bind (Ev.now fun _ => Neg29 dR) (Ev.neg hok (Ev.now fun _ => rfl)))))
theorem clear_ev (N : Nat) (err : Int) (hN : N ≤ 1000000) (ps : List S96) (hps : ∀ p ∈ ps, PivOK N p) (hpl : ps.length ≤ 1000000) (f : S41) (r : S88) (hf : GF f) (hr : RowOK N r) :
    ∃ q : S41 × S88 × Int, Ev (fun k => euclid_clear.f k ps err f r) q ∧ GF q.1 ∧ RowOK N q.2.1 ∧ (q.2.2 = 0 → err = 0 ∧ ClearP ps f q.1) := by
  obtain ⟨q, e, h⟩ := clear_l0 N err hN ps hps f r hf hr
  exact ⟨q, Ev.pos hpl e, h⟩
theorem over_l0 (xs : List S41) : ∀ (l : List S44) (f : List S41) (b : List Int), (∀ m ∈ l, 0 ≤ m.f0 ∧ m.f0 < (xs.length : Int)) → euclid_over.l0 xs l f b = some (f ++ l.map (fun m => rd_T41 xs m.f0), b ++ l.map (fun m => m.f1)) := by
  intro l
  induction l with
  | nil => intro f b _; simp [euclid_over.l0]
  | cons m l ih =>
    intro f b h
    have hm := h m (List.mem_cons_self ..)
    simp only [euclid_over.l0]
    rw [if_pos hm.1, if_pos hm.2, ih _ _ (fun a ha => h a (List.mem_cons_of_mem _ ha))]
    simp
theorem xv_map (xs : List S41) (y : List Int) (j : Nat) (hj : j < xs.length) : xv (xs.map (vF y)) j = vF y xs[j] := by
  unfold xv
  rw [List.length_map, if_pos (by omega), rd_at _ j (by rw [List.length_map]; exact hj)]
  simp
theorem rdQ_mem (xs : List S41) (v : Int) (h0 : 0 ≤ v) (h1 : v < (xs.length : Int)) : ∃ h : v.toNat < xs.length, rd_T41 xs v = xs[v.toNat] := by
  refine ⟨by omega, ?_⟩
  have := rdQ_at xs v.toNat (by omega)
  rwa [show ((v.toNat : Nat) : Int) = v by omega] at this
theorem vS_map (xs : List S41) (y : List Int) : ∀ l : List S44, (∀ m ∈ l, 0 ≤ m.f0 ∧ m.f0 < (xs.length : Int)) → vS y (zipS (l.map (fun m => rd_T41 xs m.f0)) (l.map (fun m => m.f1))) = valL l (xs.map (vF y)) := by
  intro l
  induction l with
  | nil => intro _; rfl
  | cons m l ih =>
    intro h
    have hm := h m (List.mem_cons_self ..)
    have hI := ih (fun a ha => h a (List.mem_cons_of_mem _ ha))
    obtain ⟨hj, hr⟩ := rdQ_mem xs m.f0 hm.1 hm.2
    simp only [List.map_cons, zipS, List.zipWith_cons_cons, vS] at hI ⊢
    rw [hI, valL_cons m l _ hm.1, xv_map xs y _ hj, hr, Int.mul_comm]; rfl
theorem csum_zero (v : Nat) : ∀ (qs : List S41) (bs : List Int), (∀ q ∈ qs, coef q.f1 v = 0) → csum (zipS qs bs) v = 0 := by
  intro qs
  induction qs with
  | nil => intro bs _; simp [zipS, csum]
  | cons q qs ih =>
    intro bs h
    cases bs with
    | nil => simp [zipS, csum]
    | cons b bs =>
      have hI := ih bs (fun a ha => h a (List.mem_cons_of_mem _ ha))
      simp only [zipS, List.zipWith_cons_cons, csum] at hI ⊢
      rw [hI, h q (List.mem_cons_self ..)]; simp
theorem over_ev (xs : List S41) (hx : ∀ x ∈ xs, GF x) (eq : S41) (he : GF eq) (hv : ∀ m ∈ eq.f1, m.f0 < (xs.length : Int)) :
    ∃ q : S41 × Int, Ev (fun k => euclid_over.f k xs 0 eq.f0 eq.f1) q ∧ GF q.1 ∧ (q.2 = 0 → (∀ y, vF y q.1 = vF (xs.map (vF y)) eq) ∧ ∀ v : Nat, (∀ x ∈ xs, coefI x.f1 v = 0) → coefI q.1.f1 v = 0) := by
  have hlen := he.len
  have hvar : ∀ m ∈ eq.f1, 0 ≤ m.f0 ∧ m.f0 < (xs.length : Int) := fun m hm => ⟨(rightL_vars he.2.2 m hm).1, hv m hm⟩
  have hg : ∀ q ∈ [(⟨eq.f0, []⟩ : S41)] ++ eq.f1.map (fun m => rd_T41 xs m.f0), GF q := by
    intro q hq
    rcases List.mem_append.1 hq with h | h
    · rw [List.mem_singleton] at h; subst h; exact ⟨he.1, (by intro m hm; cases hm), rfl⟩
    · obtain ⟨m, hm, rfl⟩ := List.mem_map.1 h
      obtain ⟨hj, hr⟩ := rdQ_mem xs m.f0 (hvar m hm).1 (hvar m hm).2
      rw [hr]; exact hx _ (List.getElem_mem hj)
  have hI : I64 ([1] ++ eq.f1.map (fun m => m.f1)) := by
    intro b hb
    rcases List.mem_append.1 hb with h | h
    · rw [List.mem_singleton] at h; subst h; exact ⟨by simp, by simp⟩
    · obtain ⟨m, hm, rfl⟩ := List.mem_map.1 h; exact (he.2.1 m hm).2
  have hS := linSum_ev ([(⟨eq.f0, []⟩ : S41)] ++ eq.f1.map (fun m => rd_T41 xs m.f0)) ([1] ++ eq.f1.map (fun m => m.f1)) (fun q hq => ⟨(hg q hq).1, (hg q hq).2.1, by have := (hg q hq).len; omega⟩) hI (by simp; omega)
  have hall : ([(⟨eq.f0, []⟩ : S41)] ++ eq.f1.map (fun m => rd_T41 xs m.f0)).all (fun q => rightL (-1) q.f1) = true := List.all_eq_true.2 fun q hq => (hg q hq).2.2
  have hD : sumD ([(⟨eq.f0, []⟩ : S41)] ++ eq.f1.map (fun m => rd_T41 xs m.f0)) ([1] ++ eq.f1.map (fun m => m.f1)) = sumR (zipS ([(⟨eq.f0, []⟩ : S41)] ++ eq.f1.map (fun m => rd_T41 xs m.f0)) ([1] ++ eq.f1.map (fun m => m.f1))) := by
    unfold sumD
    rw [if_pos ⟨hall, by simp⟩]
  rw [hD] at hS
  have hfine := sumR_fine (zipS ([(⟨eq.f0, []⟩ : S41)] ++ eq.f1.map (fun m => rd_T41 xs m.f0)) ([1] ++ eq.f1.map (fun m => m.f1)))
  have hG67 := zipS_G67 (fun q hq => ⟨(hg q hq).1, (hg q hq).2.1⟩) hall hI
  refine ⟨(⟨(sumR (zipS ([(⟨eq.f0, []⟩ : S41)] ++ eq.f1.map (fun m => rd_T41 xs m.f0)) ([1] ++ eq.f1.map (fun m => m.f1)))).1, (sumR (zipS ([(⟨eq.f0, []⟩ : S41)] ++ eq.f1.map (fun m => rd_T41 xs m.f0)) ([1] ++ eq.f1.map (fun m => m.f1)))).2.1⟩, if (sumR (zipS ([(⟨eq.f0, []⟩ : S41)] ++ eq.f1.map (fun m => rd_T41 xs m.f0)) ([1] ++ eq.f1.map (fun m => m.f1)))).2.2 = 0 then 0 else (sumR (zipS ([(⟨eq.f0, []⟩ : S41)] ++ eq.f1.map (fun m => rd_T41 xs m.f0)) ([1] ++ eq.f1.map (fun m => m.f1)))).2.2), ?_, ⟨hfine.1, hfine.2.1, hfine.2.2.2⟩, fun h => ?_⟩
  · unfold euclid_over.f
    refine Ev.pos (by omega) (Ev.bind (Ev.now fun _ => over_l0 xs eq.f1 _ _ hvar) (Ev.bind hS (Ev.now fun _ => rfl)))
  · have h0 : (sumR (zipS ([(⟨eq.f0, []⟩ : S41)] ++ eq.f1.map (fun m => rd_T41 xs m.f0)) ([1] ++ eq.f1.map (fun m => m.f1)))).2.2 = 0 := by
      simp only at h
      split at h <;> assumption
    refine ⟨fun y => ?_, fun v hz => ?_⟩
    · have := sumR_val y _ hG67 h0
      unfold vF
      simp only
      rw [this]
      have hm := vS_map xs y eq.f1 hvar
      simp only [zipS, List.singleton_append, List.zipWith_cons_cons, vS] at hm ⊢
      rw [hm]
      simp [valL]
      rfl
    · by_cases hv64 : v < 64
      · unfold sumR at h0 ⊢
        split at h0
        · rename_i e
          rw [if_pos e]
          simp only
          rw [coefI_linOf _ v hv64]
          refine csum_zero v _ _ fun q hq => ?_
          rw [← coefI_coef _ (-1) (hg q hq).2.2 (by omega)]
          rcases List.mem_append.1 hq with h | h
          · rw [List.mem_singleton] at h; subst h; rfl
          · obtain ⟨m, hm, rfl⟩ := List.mem_map.1 h
            obtain ⟨hj, hr⟩ := rdQ_mem xs m.f0 (hvar m hm).1 (hvar m hm).2
            rw [hr]; exact hz _ (List.getElem_mem hj)
        · simp at h0
      · exact coefI_far (q := ⟨_, _⟩) ⟨hfine.1, hfine.2.1, hfine.2.2.2⟩ v (.inr (by omega))
def pF (p : Int) (t x : S41) : S41 := ⟨(putD x.f0 x.f1 p t.f0 t.f1).1, (putD x.f0 x.f1 p t.f0 t.f1).2.1⟩
def pE (p : Int) (t x : S41) : Int := (putD x.f0 x.f1 p t.f0 t.f1).2.2
theorem pF_G (p : Int) (t x : S41) : GF (pF p t x) := putD_G ..
theorem put29_l0 (p : Int) (t : S41) (ht : GF t) : ∀ (xs : List S41) (err : Int), (∀ x ∈ xs, GF x) → ∃ s, Ev (fun k => euclid_put.l0 k p t.f0 t.f1 xs err) (xs.map (pF p t), s) ∧ (s = 0 → err = 0 ∧ ∀ x ∈ xs, pE p t x = 0) := by
  intro xs
  induction xs with
  | nil => intro err _; exact ⟨err, Ev.now fun k => by simp only [euclid_put.l0]; rfl, fun h => ⟨h, by intro x hx; cases hx⟩⟩
  | cons x xs ih =>
    intro err h
    have hx := h x (List.mem_cons_self ..)
    have hP := linPut_ev x.f0 x.f1 p t.f0 t.f1 hx.1 hx.2.1 (by have := hx.len; omega) ht.1 ht.2.1 (by have := ht.len; omega)
    obtain ⟨s, e, hs⟩ := ih (if pE p t x = 0 then err else pE p t x) (fun a ha => h a (List.mem_cons_of_mem _ ha))
    refine ⟨s, ?_, fun h0 => ?_⟩
    · simp only [euclid_put.l0]
      exact Ev.bind hP (Ev.bind e (Ev.now fun _ => rfl))
    · have h1 := hs h0
      by_cases z : pE p t x = 0
      · rw [if_pos z] at h1
        exact ⟨h1.1, fun a ha => by rcases List.mem_cons.1 ha with e | e; (· subst e; exact z); exact h1.2 a e⟩
      · rw [if_neg z] at h1; exact absurd h1.1 z
theorem put29_ev (p : Int) (t : S41) (ht : GF t) (xs : List S41) (err : Int) (hx : ∀ x ∈ xs, GF x) (f : S41) (hf : GF f) :
    ∃ s, Ev (fun k => euclid_put.f k xs err f.f0 f.f1 p t.f0 t.f1) (pF p t f, xs.map (pF p t), s) ∧ (s = 0 → err = 0 ∧ pE p t f = 0 ∧ ∀ x ∈ xs, pE p t x = 0) := by
  obtain ⟨s, e, hs⟩ := put29_l0 p t ht xs err hx
  have hP := linPut_ev f.f0 f.f1 p t.f0 t.f1 hf.1 hf.2.1 (by have := hf.len; omega) ht.1 ht.2.1 (by have := ht.len; omega)
  refine ⟨if pE p t f = 0 then s else pE p t f, Ev.bind e (Ev.bind hP (Ev.now fun _ => rfl)), fun h => ?_⟩
  by_cases z : pE p t f = 0
  · rw [if_pos z] at h; exact ⟨(hs h).1, z, (hs h).2⟩
  · rw [if_neg z] at h; exact absurd h z
/-- Forms whose values are those of others, elsewhere; only what B tells of changes. -/
def Sub29 (B : Nat → Prop) (f : S41) (xs : List S41) (g : S41) (zs : List S41) : Prop := ∃ σ : List Int → List Int, ∀ y : List Int, y.length = 64 → (σ y).length = 64 ∧ (∀ v, ¬ B v → xv (σ y) v = xv y v) ∧ vF y g = vF (σ y) f ∧ zs.map (vF y) = xs.map (vF (σ y))
theorem Sub29.refl (B : Nat → Prop) (f : S41) (xs : List S41) : Sub29 B f xs f xs := ⟨fun y => y, fun _ hy => ⟨hy, fun _ _ => rfl, rfl, rfl⟩⟩
theorem Sub29.trans {B C : Nat → Prop} {f g h : S41} {xs ys zs : List S41} (h1 : Sub29 B f xs g ys) (h2 : Sub29 C g ys h zs) (hC : ∀ v, C v → B v) : Sub29 B f xs h zs := by
  obtain ⟨σ, h1⟩ := h1
  obtain ⟨τ, h2⟩ := h2
  refine ⟨fun y => σ (τ y), fun y hy => ?_⟩
  obtain ⟨a1, a2, a3, a4⟩ := h2 y hy
  obtain ⟨b1, b2, b3, b4⟩ := h1 (τ y) a1
  exact ⟨b1, fun v hv => by rw [b2 v hv, a2 v (fun h => hv (hC v h))], by rw [a3, b3], by rw [a4, b4]⟩
theorem Sub29.mono {B C : Nat → Prop} {f g : S41} {xs ys : List S41} (h1 : Sub29 C f xs g ys) (hC : ∀ v, C v → B v) : Sub29 B f xs g ys := by
  obtain ⟨σ, h1⟩ := h1
  exact ⟨σ, fun y hy => ⟨(h1 y hy).1, fun v hv => (h1 y hy).2.1 v (fun h => hv (hC v h)), (h1 y hy).2.2⟩⟩
theorem put_Sub (b : Nat) (hb : b < 64) (t : S41) (ht : GF t) (f : S41) (hf : GF f) (xs : List S41) (hx : ∀ x ∈ xs, GF x) (h1 : pE b t f = 0) (h2 : ∀ x ∈ xs, pE b t x = 0) : Sub29 (fun v => v = b) f xs (pF b t f) (xs.map (pF b t)) := by
  refine ⟨fun y => y.set b (vF y t), fun y hy => ⟨by rw [List.length_set]; exact hy, fun v hv => by rw [xv_set y b _ (by omega), if_neg hv], putD_val hf ht b y (by omega) h1, ?_⟩⟩
  rw [List.map_map]
  exact List.map_congr_left fun x hxx => putD_val (hx x hxx) ht b y (by omega) (h2 x hxx)
theorem toL_G (b m : S44) (n : Int) (hb : 0 ≤ b.f0 ∧ b.f0 < 64) (hm : 0 ≤ m.f0 ∧ m.f0 < 64) (hn : R64 n) (hne : m.f0 ≠ b.f0) : GF ⟨0, euclid_toL b m n⟩ ∧ ∀ u, coefI (euclid_toL b m n) u = if u = b.f0 then 1 else if u = m.f0 then n else 0 := by
  have r : ∀ v : Int, 0 ≤ v ∧ v < 64 → -9223372036854775808 ≤ v ∧ v ≤ 9223372036854775807 := fun v hv => by omega
  unfold euclid_toL
  by_cases z : n = 0
  · rw [if_pos z]
    refine ⟨⟨by simp [R64], ?_, ?_⟩, fun u => ?_⟩
    · intro a ha
      rw [List.mem_singleton] at ha; subst ha; exact ⟨r _ hb, by simp⟩
    · simp only [rightL, Bool.and_eq_true, decide_eq_true_eq]
      exact ⟨⟨⟨by omega, hb.2⟩, by omega⟩, trivial⟩
    · simp only [coefI]
      by_cases e : u = b.f0
      · rw [if_pos e, if_pos e.symm]
      · rw [if_neg e, if_neg (fun h => e h.symm), z]; split <;> rfl
  · rw [if_neg z]
    by_cases c : m.f0 < b.f0
    · rw [if_pos c]
      refine ⟨⟨by simp [R64], ?_, ?_⟩, fun u => ?_⟩
      · intro a ha
        simp only [List.mem_cons, List.not_mem_nil, or_false] at ha
        rcases ha with e | e
        · subst e; exact ⟨r _ hm, hn⟩
        · subst e; exact ⟨r _ hb, by simp⟩
      · simp only [rightL, Bool.and_eq_true, decide_eq_true_eq]
        exact ⟨⟨⟨by omega, hm.2⟩, z⟩, ⟨⟨c, hb.2⟩, by omega⟩, trivial⟩
      · simp only [coefI]
        by_cases e : u = b.f0
        · rw [if_pos e, if_neg (by omega), if_pos e.symm]
        · rw [if_neg e]
          by_cases e2 : u = m.f0
          · rw [if_pos e2, if_pos e2.symm]
          · rw [if_neg e2, if_neg (by omega), if_neg (by omega)]
    · rw [if_neg c]
      refine ⟨⟨by simp [R64], ?_, ?_⟩, fun u => ?_⟩
      · intro a ha
        simp only [List.mem_cons, List.not_mem_nil, or_false] at ha
        rcases ha with e | e
        · subst e; exact ⟨r _ hb, by simp⟩
        · subst e; exact ⟨r _ hm, hn⟩
      · simp only [rightL, Bool.and_eq_true, decide_eq_true_eq]
        exact ⟨⟨⟨by omega, hb.2⟩, by omega⟩, ⟨⟨by omega, hm.2⟩, z⟩, trivial⟩
      · simp only [coefI]
        by_cases e : u = b.f0
        · rw [if_pos e, if_pos e.symm]
        · rw [if_neg e, if_neg (by omega)]
          by_cases e2 : u = m.f0
          · rw [if_pos e2, if_pos e2.symm]
          · rw [if_neg e2, if_neg (by omega)]
theorem red_l2 (b : S44) (hb : 0 ≤ b.f0 ∧ b.f0 < 64) (hbR : R64 b.f1) (hb0 : b.f1 ≠ 0) (n : Nat) (hbn : b.f0 < n) : ∀ (l : List S44) (last : Int), rightL last l = true → -1 ≤ last → M64 l → (∀ m ∈ l, m.f0 < (n : Int)) → ∀ (f : S41) (xs : List S41), GF f → (∀ x ∈ xs, GF x) → coefI f.f1 b.f0 = b.f1 → (∀ m ∈ l, coefI f.f1 m.f0 = m.f1) →
    ∃ q : Bool × S41 × List S41 × Int, Ev (fun k => euclid_reduce.l2 k b l f xs 0) q ∧ GF q.2.1 ∧ (∀ x ∈ q.2.2.1, GF x) ∧ (q.1 = true → q.2.2.2 ≠ 0) ∧ (q.2.2.2 = 0 → Sub29 (fun v => v = b.f0.toNat) f xs q.2.1 q.2.2.1 ∧ coefI q.2.1.f1 b.f0 = b.f1 ∧ (∀ m ∈ l, m.f0 ≠ b.f0 → (coefI q.2.1.f1 m.f0).natAbs < b.f1.natAbs) ∧ (∀ v : Int, (∀ m ∈ l, m.f0 ≠ v) → coefI q.2.1.f1 v = coefI f.f1 v) ∧ ∀ v : Nat, n ≤ v → (∀ x ∈ xs, coefI x.f1 v = 0) → ∀ x ∈ q.2.2.1, coefI x.f1 v = 0) := by
  intro l
  induction l with
  | nil =>
    intro last _ _ _ _ f xs hf hx hc _
    exact ⟨(false, f, xs, 0), Ev.now fun k => by simp only [euclid_reduce.l2], hf, hx, fun h => (by cases h), fun _ => ⟨Sub29.refl _ _ _, hc, (by intro m hm; cases hm), fun _ _ => rfl, fun _ _ h => h⟩⟩
  | cons m l ih =>
    intro last hr hl hM hn f xs hf hx hc hcm
    simp only [rightL, Bool.and_eq_true, decide_eq_true_eq] at hr
    have hlt : ∀ a ∈ l, m.f0 < a.f0 := fun a ha => (rightL_mem l m.f0 hr.2 a ha).1
    have ih := ih m.f0 hr.2 (by omega) (fun a ha => hM a (List.mem_cons_of_mem _ ha)) (fun a ha => hn a (List.mem_cons_of_mem _ ha))
    by_cases e : m.f0 = b.f0
    · obtain ⟨q, ev, q1, q2, q3, q4⟩ := ih f xs hf hx hc (fun a ha => hcm a (List.mem_cons_of_mem _ ha))
      refine ⟨q, ?_, q1, q2, q3, fun h => ?_⟩
      · simp only [euclid_reduce.l2]
        exact Ev.pos e ev
      · obtain ⟨p1, p2, p3, p4, p5⟩ := q4 h
        refine ⟨p1, p2, fun a ha hne => ?_, fun v hv => p4 v fun a ha => hv a (List.mem_cons_of_mem _ ha), p5⟩
        rcases List.mem_cons.1 ha with e2 | e2
        · subst e2; exact absurd e hne
        · exact p3 a e2 hne
    · have hm0 : 0 ≤ m.f0 ∧ m.f0 < 64 := by omega
      obtain ⟨d, hd, dR, dv⟩ := Div29 (hM m (List.mem_cons_self ..)).2 hbR hb0
      by_cases hok : (d.2 && (fitI (-d.1)).2) = true
      · have hok' := hok
        rw [Bool.and_eq_true] at hok
        obtain ⟨m1, m2⟩ := fitI_ok hok.2
        obtain ⟨hG, hT⟩ := toL_G b m (fitI (-d.1)).1 hb hm0 (by rw [m2]; exact m1) e
        obtain ⟨s, es, hs⟩ := put29_ev b.f0 ⟨0, euclid_toL b m (fitI (-d.1)).1⟩ hG xs 0 hx f hf
        by_cases s0 : s = 0
        · obtain ⟨_, hs1, hs2⟩ := hs s0
          have hco : ∀ u, coefI (pF b.f0 ⟨0, euclid_toL b m (fitI (-d.1)).1⟩ f).f1 u = (if u = b.f0 then 0 else coefI f.f1 u) + (if u = b.f0 then 1 else if u = m.f0 then (fitI (-d.1)).1 else 0) * b.f1 := by
            intro u
            have := putD_coef hf hG b.f0 hs1 u
            rw [hc, hT] at this
            exact this
          have hxG : ∀ x ∈ xs.map (pF b.f0 ⟨0, euclid_toL b m (fitI (-d.1)).1⟩), GF x := by
            intro x hxx
            obtain ⟨a, _, rfl⟩ := List.mem_map.1 hxx
            exact pF_G ..
          obtain ⟨q, ev, q1, q2, q3, q4⟩ := ih (pF b.f0 ⟨0, euclid_toL b m (fitI (-d.1)).1⟩ f) (xs.map (pF b.f0 ⟨0, euclid_toL b m (fitI (-d.1)).1⟩)) (pF_G ..) hxG (by rw [hco, if_pos rfl, if_pos rfl]; omega) (fun a ha => by
            have h1 := hlt a ha
            have h2 := hcm a (List.mem_cons_of_mem _ ha)
            rw [hco]
            by_cases ab : a.f0 = b.f0
            · rw [if_pos ab, if_pos ab]; rw [ab, hc] at h2; omega
            · rw [if_neg ab, if_neg ab, if_neg (by omega), h2]; omega)
          refine ⟨q, ?_, q1, q2, q3, fun h => ?_⟩
          · simp only [euclid_reduce.l2]
            exact Ev.neg e (Ev.bind (Ev.now fun _ => hd) (Ev.bind (Ev.now fun _ => Neg29 dR) (Ev.pos hok' (Ev.bind es (Ev.pos s0 (by rw [s0]; exact ev))))))
          · obtain ⟨p1, p2, p3, p4, p5⟩ := q4 h
            have hbn' : b.f0 = (b.f0.toNat : Int) := by omega
            have hSub := put_Sub b.f0.toNat (by omega) ⟨0, euclid_toL b m (fitI (-d.1)).1⟩ hG f hf xs hx (by rw [← hbn']; exact hs1) (by rw [← hbn']; exact hs2)
            rw [← hbn'] at hSub
            refine ⟨hSub.trans p1 (fun _ h => h), p2, fun a ha hne => ?_, fun v hv => ?_, fun v hv hz => p5 v hv fun x hxx => ?_⟩
            · rcases List.mem_cons.1 ha with e2 | e2
              · subst e2
                rw [p4 a.f0 (fun c hc2 => by have := hlt c hc2; omega), hco, if_neg e, if_neg e, if_pos rfl, hcm a (List.mem_cons_self ..), m2, Int.neg_mul]
                exact dv hok.1
              · exact p3 a e2 hne
            · rw [p4 v fun a ha => hv a (List.mem_cons_of_mem _ ha), hco]
              have := hv m (List.mem_cons_self ..)
              by_cases vb : v = b.f0
              · rw [if_pos vb, if_pos vb, vb, hc]; omega
              · rw [if_neg vb, if_neg vb, if_neg (fun h => this h.symm)]; omega
            · obtain ⟨a, ha, rfl⟩ := List.mem_map.1 hxx
              have h3 := putD_coef (hx a ha) hG b.f0 (hs2 a ha) v
              rw [hT, if_neg (by omega), if_neg (by omega), if_neg (by have := hn m (List.mem_cons_self ..); omega), hz a ha] at h3
              exact h3.trans (by simp)
        · refine ⟨(true, pF b.f0 ⟨0, euclid_toL b m (fitI (-d.1)).1⟩ f, xs.map (pF b.f0 ⟨0, euclid_toL b m (fitI (-d.1)).1⟩), s), ?_, pF_G .., ?_, fun _ => s0, fun h => absurd h s0⟩
          · simp only [euclid_reduce.l2]
            exact Ev.neg e (Ev.bind (Ev.now fun _ => hd) (Ev.bind (Ev.now fun _ => Neg29 dR) (Ev.pos hok' (Ev.bind es (Ev.neg s0 (Ev.now fun _ => rfl))))))
          · intro x hxx
            obtain ⟨a, _, rfl⟩ := List.mem_map.1 hxx
            exact pF_G ..
      · refine ⟨(true, f, xs, 5), ?_, hf, hx, fun _ => by simp, fun h => by simp at h⟩
        simp only [euclid_reduce.l2]
        exact Ev.neg e (Ev.bind (Ev.now fun _ => hd) (Ev.bind (Ev.now fun _ => Neg29 dR) (Ev.neg hok (Ev.now fun _ => rfl))))
theorem far29 {a : Int} (h : R64 a) : euclid_far.f a = some (a.natAbs : Int) := by
  have := h.1
  have := h.2
  unfold euclid_far.f
  simp only [u64w]
  split <;> congr 1 <;> omega
theorem red_l1 : ∀ (l : List S44) (b : S44), R64 b.f1 → M64 l → ∃ c, euclid_reduce.l1 l b = some c ∧ (c = b ∨ c ∈ l) ∧ c.f1.natAbs ≤ b.f1.natAbs ∧ ∀ m ∈ l, c.f1.natAbs ≤ m.f1.natAbs := by
  intro l
  induction l with
  | nil => intro b _ _; exact ⟨b, rfl, .inl rfl, Nat.le_refl _, by intro m hm; cases hm⟩
  | cons m l ih =>
    intro b hb hM
    have hm := (hM m (List.mem_cons_self ..)).2
    have hMl : M64 l := fun a ha => hM a (List.mem_cons_of_mem _ ha)
    by_cases e : ((m.f1.natAbs : Nat) : Int) < (b.f1.natAbs : Int)
    · obtain ⟨c, h1, h2, h3, h4⟩ := ih m hm hMl
      refine ⟨c, ?_, ?_, by omega, fun a ha => ?_⟩
      · simp only [euclid_reduce.l1]
        rw [far29 hm, far29 hb]
        simp only [Option.bind_some]
        rw [if_pos e]; exact h1
      · rcases h2 with h | h
        · subst h; exact .inr (List.mem_cons_self ..)
        · exact .inr (List.mem_cons_of_mem _ h)
      · rcases List.mem_cons.1 ha with e2 | e2
        · subst e2; exact h3
        · exact h4 a e2
    · obtain ⟨c, h1, h2, h3, h4⟩ := ih b hb hMl
      refine ⟨c, ?_, ?_, h3, fun a ha => ?_⟩
      · simp only [euclid_reduce.l1]
        rw [far29 hm, far29 hb]
        simp only [Option.bind_some]
        rw [if_neg e]; exact h1
      · rcases h2 with h | h
        · exact .inl h
        · exact .inr (List.mem_cons_of_mem _ h)
      · rcases List.mem_cons.1 ha with e2 | e2
        · subst e2; omega
        · exact h4 a e2
/-- What reduce leaves. -/
def RedP (n : Nat) (f : S41) (xs : List S41) (g : S41) (zs : List S41) : Prop := Sub29 (fun v => coefI f.f1 v ≠ 0) f xs g zs ∧ (∀ v : Int, coefI f.f1 v = 0 → coefI g.f1 v = 0) ∧ ∀ v : Nat, n ≤ v → (∀ x ∈ xs, coefI x.f1 v = 0) → ∀ x ∈ zs, coefI x.f1 v = 0
theorem red_l0 (n : Nat) : ∀ (c : Nat) (f : S41) (xs : List S41), GF f → (∀ x ∈ xs, GF x) → (∀ m ∈ f.f1, m.f0 < (n : Int)) → (f.f1.length ≤ 1 ∨ ∃ m ∈ f.f1, m.f1.natAbs ≤ c) →
    ∃ (N : Nat) (q : S41 × List S41 × Int), (∃ K, ∀ k, K ≤ k → ∀ g, N ≤ g → euclid_reduce.l0 k g f xs 0 = some q) ∧ GF q.1 ∧ (∀ x ∈ q.2.1, GF x) ∧ (q.2.2 = 0 → q.1.f1.length ≤ 1 ∧ RedP n f xs q.1 q.2.1) := by
  have small : ∀ (f : S41) (xs : List S41), GF f → (∀ x ∈ xs, GF x) → f.f1.length ≤ 1 → ∃ (N : Nat) (q : S41 × List S41 × Int), (∃ K, ∀ k, K ≤ k → ∀ g, N ≤ g → euclid_reduce.l0 k g f xs 0 = some q) ∧ GF q.1 ∧ (∀ x ∈ q.2.1, GF x) ∧ (q.2.2 = 0 → q.1.f1.length ≤ 1 ∧ RedP n f xs q.1 q.2.1) := by
    intro f xs hf hx hl
    refine ⟨1, (f, xs, 0), ⟨0, fun k _ g hg => ?_⟩, hf, hx, fun _ => ⟨hl, Sub29.refl _ _ _, fun _ h => h, fun _ _ h => h⟩⟩
    obtain ⟨g, rfl⟩ : ∃ j, g = j + 1 := ⟨g - 1, by omega⟩
    simp only [euclid_reduce.l0]
    rw [if_neg (by omega)]
  intro c
  induction c with
  | zero =>
    intro f xs hf hx _ h
    rcases h with h | ⟨m, hm, h⟩
    · exact small f xs hf hx h
    · have := (rightL_mem f.f1 (-1) hf.2.2 m hm).2.2
      omega
  | succ c ih =>
    intro f xs hf hx hn h
    by_cases hl : f.f1.length ≤ 1
    · exact small f xs hf hx hl
    · obtain ⟨m0, hm0, hc0⟩ := h.resolve_left hl
      have hlen := hf.len
      have h0 : rd_T44 f.f1 0 = f.f1[0]'(by omega) := rdM_at f.f1 0 (by omega)
      obtain ⟨b, hb1, hb2, hb3, hb4⟩ := red_l1 f.f1 (rd_T44 f.f1 0) (by rw [h0]; exact (hf.2.1 _ (List.getElem_mem _)).2) hf.2.1
      have hbm : b ∈ f.f1 := by
        rcases hb2 with h | h
        · rw [h, h0]; exact List.getElem_mem _
        · exact h
      have hbr := rightL_mem f.f1 (-1) hf.2.2 b hbm
      have hbc := hb4 m0 hm0
      obtain ⟨q, ev, q1, q2, q3, q4⟩ := red_l2 b ⟨by omega, hbr.2.1⟩ (hf.2.1 b hbm).2 hbr.2.2 n (hn b hbm) f.f1 (-1) hf.2.2 (by omega) hf.2.1 hn f xs hf hx (coefI_mem _ _ hf.2.2 b hbm) (fun m hm => coefI_mem _ _ hf.2.2 m hm)
      have step : ∀ k g r, euclid_reduce.l2 k b f.f1 f xs 0 = some q → (if q.1 = true then some q.2 else euclid_reduce.l0 k g q.2.1 q.2.2.1 q.2.2.2) = some r → euclid_reduce.l0 k (g + 1) f xs 0 = some r := by
        intro k g r hq hr
        simp only [euclid_reduce.l0]
        rw [if_pos ⟨trivial, by omega⟩, if_pos (by omega), hb1]
        simp only [Option.bind_some]
        rw [hq]
        exact hr
      obtain ⟨K, ev⟩ := ev
      by_cases hq : q.1 = true
      · refine ⟨1, q.2, ⟨K, fun k hk g hg => ?_⟩, q1, q2, fun h => absurd h (q3 hq)⟩
        obtain ⟨g, rfl⟩ : ∃ j, g = j + 1 := ⟨g - 1, by omega⟩
        exact step k g _ (ev k hk) (if_pos hq)
      · by_cases z : q.2.2.2 = 0
        · obtain ⟨p1, p2, p3, p4, p5⟩ := q4 z
          have hzero : ∀ v : Int, coefI f.f1 v = 0 → coefI q.2.1.f1 v = 0 := by
            intro v hv
            rw [p4 v fun m hm e => ?_, hv]
            have := coefI_mem _ _ hf.2.2 m hm
            rw [e, hv] at this
            exact (rightL_mem f.f1 (-1) hf.2.2 m hm).2.2 this.symm
          have hin : ∀ m ∈ q.2.1.f1, ∃ a ∈ f.f1, a.f0 = m.f0 := by
            intro m hm
            refine coefI_ex f.f1 m.f0 fun h => ?_
            have h2 := coefI_mem _ _ q1.2.2 m hm
            rw [hzero _ h] at h2
            exact (rightL_mem q.2.1.f1 (-1) q1.2.2 m hm).2.2 h2.symm
          obtain ⟨N, r, ⟨K2, er⟩, r1, r2, r3⟩ := ih q.2.1 q.2.2.1 q1 q2 (fun m hm => by obtain ⟨a, ha, e⟩ := hin m hm; have := hn a ha; omega) (by
            by_cases hl2 : q.2.1.f1.length ≤ 1
            · exact .inl hl2
            · refine .inr ?_
              have small2 : ∀ m ∈ q.2.1.f1, m.f0 ≠ b.f0 → m.f1.natAbs ≤ c := by
                intro m hm hne
                obtain ⟨a, ha, e⟩ := hin m hm
                have h5 := p3 a ha (by omega)
                rw [e, coefI_mem _ _ q1.2.2 m hm] at h5
                omega
              match hL : q.2.1.f1 with
              | [] => rw [hL] at hl2; simp at hl2
              | [_] => rw [hL] at hl2; simp at hl2
              | m1 :: m2 :: rest =>
                rw [hL] at small2
                have hr := q1.2.2
                rw [hL] at hr
                simp only [rightL, Bool.and_eq_true, decide_eq_true_eq] at hr
                by_cases e1 : m1.f0 = b.f0
                · exact ⟨m2, by simp, small2 m2 (by simp) (by omega)⟩
                · exact ⟨m1, by simp, small2 m1 (by simp) e1⟩)
          refine ⟨N + 1, r, ⟨max K K2, fun k hk g hg => ?_⟩, r1, r2, fun h => ⟨(r3 h).1, ?_, fun v hv => (r3 h).2.2.1 v (hzero v hv), fun v hv hx2 => (r3 h).2.2.2 v hv (p5 v hv hx2)⟩⟩
          · obtain ⟨g, rfl⟩ : ∃ j, g = j + 1 := ⟨g - 1, by omega⟩
            refine step k g _ (ev k (by omega)) ?_
            rw [if_neg hq, z]
            exact er k (by omega) g (by omega)
          · refine (p1.mono fun v hv => ?_).trans (r3 h).2.1 fun v hv hv0 => hv (hzero v hv0)
            subst hv
            rw [show ((b.f0.toNat : Nat) : Int) = b.f0 by omega, coefI_mem _ _ hf.2.2 b hbm]
            exact hbr.2.2
        · refine ⟨2, (q.2.1, q.2.2.1, q.2.2.2), ⟨K, fun k hk g hg => ?_⟩, q1, q2, fun h => absurd h z⟩
          obtain ⟨g, rfl⟩ : ∃ j, g = j + 2 := ⟨g - 2, by omega⟩
          refine step k (g + 1) _ (ev k hk) ?_
          rw [if_neg hq]
          simp only [euclid_reduce.l0]
          rw [if_neg (fun h => z h.1)]
theorem reduce_ev (n : Nat) (f : S41) (xs : List S41) (err : Int) (hf : GF f) (hx : ∀ x ∈ xs, GF x) (hn : err = 0 → ∀ m ∈ f.f1, m.f0 < (n : Int)) :
    ∃ q : S41 × List S41 × Int, Ev (fun k => euclid_reduce.f k xs err f) q ∧ GF q.1 ∧ (∀ x ∈ q.2.1, GF x) ∧ (q.2.2 = 0 → err = 0 ∧ q.1.f1.length ≤ 1 ∧ RedP n f xs q.1 q.2.1) := by
  by_cases he : err = 0
  · subst he
    obtain ⟨N, q, ⟨K, e⟩, q1, q2, q3⟩ := red_l0 n (f.f1.foldr (fun m s => m.f1.natAbs + s) 0) f xs hf hx (hn rfl) (by
      match hL : f.f1 with
      | [] => left; simp
      | m :: l => right; exact ⟨m, by simp, by simp⟩)
    exact ⟨q, ⟨max K N, fun k hk => e k (by omega) k (by omega)⟩, q1, q2, fun h => ⟨rfl, q3 h⟩⟩
  · refine ⟨(f, xs, err), ⟨1, fun k hk => ?_⟩, hf, hx, fun h => absurd h he⟩
    obtain ⟨k, rfl⟩ : ∃ j, k = j + 1 := ⟨k - 1, by omega⟩
    simp only [euclid_reduce.f, euclid_reduce.l0]
    rw [if_neg (fun h => he h.1)]
theorem nm_facts (ps : List S96) : ∀ m : Nat, (0 ≤ (euclid_nm ps m).2 ∧ (euclid_nm ps m).2 ≤ m) ∧ (∀ v : Nat, v < m → euclid_fixed ps v = false → 0 ≤ (euclid_nm ps m).1 v ∧ (euclid_nm ps m).1 v < (euclid_nm ps m).2) ∧ ∀ u v : Nat, u < v → v < m → euclid_fixed ps u = false → euclid_fixed ps v = false → (euclid_nm ps m).1 u < (euclid_nm ps m).1 v := by
  intro m
  induction m with
  | zero => exact ⟨⟨by simp [euclid_nm], by simp [euclid_nm]⟩, fun v h => by omega, fun u v _ h => by omega⟩
  | succ m ih =>
    obtain ⟨⟨i1, i2⟩, i3, i4⟩ := ih
    by_cases e : euclid_fixed ps m = true
    · have h : euclid_nm ps (m + 1) = euclid_nm ps m := by simp only [euclid_nm]; rw [if_pos e]
      rw [h]
      refine ⟨⟨i1, by omega⟩, fun v hv hf => ?_, fun u v huv hv hf hg => ?_⟩
      · have : v ≠ m := by intro e2; subst e2; rw [e] at hf; cases hf
        exact i3 v (by omega) hf
      · have : v ≠ m := by intro e2; subst e2; rw [e] at hg; cases hg
        exact i4 u v huv (by omega) hf hg
    · have h : euclid_nm ps (m + 1) = (fun q => if q = (m : Int) then (euclid_nm ps m).2 else (euclid_nm ps m).1 q, (euclid_nm ps m).2 + 1) := by simp only [euclid_nm]; rw [if_neg e]
      rw [h]
      simp only
      refine ⟨⟨by omega, by omega⟩, fun v hv hf => ?_, fun u v huv hv hf hg => ?_⟩
      · by_cases e2 : v = m
        · subst e2; rw [if_pos rfl]; omega
        · rw [if_neg (by omega)]
          have := i3 v (by omega) hf
          omega
      · rw [if_neg (show ¬ (u : Int) = (m : Int) by omega)]
        by_cases e2 : v = m
        · subst e2; rw [if_pos rfl]; exact (i3 u (by omega) hf).2
        · rw [if_neg (by omega)]; exact i4 u v huv (by omega) hf hg
theorem nmL_right (nm : Int → Int) (C : Int) (hC : C ≤ 64) : ∀ (l : List S44) (last last' : Int), rightL last l = true → (∀ m ∈ l, last' < nm m.f0 ∧ nm m.f0 < C) → (∀ a ∈ l, ∀ b ∈ l, a.f0 < b.f0 → nm a.f0 < nm b.f0) → rightL last' (euclid_nmL nm l) = true := by
  intro l
  induction l with
  | nil => intro _ _ _ _ _; rfl
  | cons m l ih =>
    intro last last' h h1 h2
    simp only [rightL, Bool.and_eq_true, decide_eq_true_eq] at h
    have hm := h1 m (List.mem_cons_self ..)
    have hI := ih m.f0 (nm m.f0) h.2 (fun a ha => ⟨h2 m (List.mem_cons_self ..) a (List.mem_cons_of_mem _ ha) (rightL_mem l m.f0 h.2 a ha).1, (h1 a (List.mem_cons_of_mem _ ha)).2⟩) (fun a ha b hb => h2 a (List.mem_cons_of_mem _ ha) b (List.mem_cons_of_mem _ hb))
    simp only [euclid_nmL, List.map_cons, rightL, Bool.and_eq_true, decide_eq_true_eq] at hI ⊢
    exact ⟨⟨⟨hm.1, by omega⟩, h.1.2⟩, hI⟩
theorem valL_nm (nm : Int → Int) (at_ y : List Int) : ∀ l : List S44, (∀ m ∈ l, 0 ≤ m.f0 ∧ 0 ≤ nm m.f0 ∧ xv at_ (nm m.f0).toNat = xv y m.f0.toNat) → valL (euclid_nmL nm l) at_ = valL l y := by
  intro l
  induction l with
  | nil => intro _; rfl
  | cons m l ih =>
    intro h
    have hm := h m (List.mem_cons_self ..)
    have hI := ih (fun a ha => h a (List.mem_cons_of_mem _ ha))
    simp only [euclid_nmL, List.map_cons] at hI ⊢
    rw [valL_cons _ _ at_ (by exact hm.2.1), valL_cons m l y hm.1, hI]
    simp only
    rw [hm.2.2]
theorem sat_ex (N : Nat) : ∀ ps : List S96, (∀ p ∈ ps, PivOK N p) → (ps.map (fun p => p.f0)).Nodup → ∀ y0 : List Int, y0.length = 64 → ∃ y : List Int, y.length = 64 ∧ satP ps y ∧ ∀ v : Nat, (∀ p ∈ ps, p.f0 ≠ v) → xv y v = xv y0 v := by
  intro ps
  induction ps with
  | nil => intro _ _ y0 h; exact ⟨y0, h, (by intro p hp; cases hp), fun _ _ => rfl⟩
  | cons p ps ih =>
    intro hps hn y0 h0
    rw [List.map_cons, List.nodup_cons] at hn
    obtain ⟨y, y1, y2, y3⟩ := ih (fun x hx => hps x (List.mem_cons_of_mem _ hx)) hn.2 y0 h0
    obtain ⟨⟨p1, p2⟩, p3, p4, p5, ⟨c, p6⟩, p7⟩ := hps p (List.mem_cons_self ..)
    refine ⟨y.set p.f0.toNat (-c), by rw [List.length_set]; exact y1, fun x hx => ?_, fun v hv => ?_⟩
    · rw [xv_set _ _ _ (by omega)]
      rcases List.mem_cons.1 hx with e | e
      · subst e; rw [if_pos rfl, p6, Int.mul_neg]; omega
      · have hxp := (hps x hx).1
        rw [if_neg (fun e2 => hn.1 (List.mem_map.2 ⟨x, e, by omega⟩))]
        exact y2 x e
    · have := hv p (List.mem_cons_self ..)
      rw [xv_set _ _ _ (by omega), if_neg (by omega)]
      exact y3 v fun x hx => hv x (List.mem_cons_of_mem _ hx)
theorem xv_gen (F : Nat → Int) (j : Nat) (hj : j < 64) : xv ((List.range 64).map F) j = F j := by
  unfold xv
  rw [if_pos (by simp only [List.length_map, List.length_range]; omega), rd_at _ j (by simp only [List.length_map, List.length_range]; omega)]
  simp only [List.getElem_map, List.getElem_range]
theorem fixed_no {ps : List S96} {v : Int} (h : ∀ p ∈ ps, p.f0 ≠ v) : euclid_fixed ps v = false := by
  unfold euclid_fixed
  rw [List.any_eq_false]
  intro p hp
  have := h p hp
  simp [this]
theorem fixed_is {ps : List S96} {v : Int} (h : euclid_fixed ps v = false) : ∀ p ∈ ps, p.f0 ≠ v := by
  unfold euclid_fixed at h
  rw [List.any_eq_false] at h
  intro p hp e
  exact h p hp (by simp [e])
theorem para_l0 (ps : List S96) (nm : Int → Int) (Q : S41 → S41 × S88 × Int) (hQ : ∀ x, GF x → Ev (fun k => euclid_clear.f k ps 0 x ⟨[], 0, false⟩) (Q x) ∧ GF (Q x).1) : ∀ (xs out : List S41), (∀ x ∈ xs, GF x) →
    ∃ q : Bool × List S41 × Int, Ev (fun k => euclid_para.l0 k ps nm xs 0 out) q ∧ (q.1 = false → q.2.2 ≠ 0) ∧ (q.1 = true → q.2.1 = out ++ xs.map (fun x => ⟨(Q x).1.f0, euclid_nmL nm (Q x).1.f1⟩) ∧ ∀ x ∈ xs, (Q x).2.2 = 0) := by
  intro xs
  induction xs with
  | nil => intro out _; exact ⟨(true, out, 0), Ev.now fun k => by simp only [euclid_para.l0], fun h => (by cases h), fun _ => ⟨by simp, by intro x hx; cases hx⟩⟩
  | cons x xs ih =>
    intro out h
    obtain ⟨e, hG⟩ := hQ x (h x (List.mem_cons_self ..))
    by_cases z : (Q x).2.2 = 0
    · obtain ⟨q, ev, q1, q2⟩ := ih (out ++ [⟨(Q x).1.f0, euclid_nmL nm (Q x).1.f1⟩]) (fun a ha => h a (List.mem_cons_of_mem _ ha))
      refine ⟨q, ?_, q1, fun hq => ⟨by rw [(q2 hq).1]; simp, fun a ha => ?_⟩⟩
      · simp only [euclid_para.l0]
        exact Ev.bind e (Ev.pos z (Ev.pos ⟨hG.len, rightL_vars hG.2.2⟩ (by rw [z]; exact ev)))
      · rcases List.mem_cons.1 ha with e2 | e2
        · subst e2; exact z
        · exact (q2 hq).2 a e2
    · refine ⟨(false, [], (Q x).2.2), ?_, fun _ => z, fun h => (by cases h)⟩
      simp only [euclid_para.l0]
      exact Ev.bind e (Ev.neg z (Ev.now fun _ => rfl))
/-- Forms that solve, whatever the parameters. -/
def Solved (eqs : List S41) (n : Nat) (Vs : List S41) (F : Int) : Prop := Vs.length = n ∧ 0 ≤ F ∧ F ≤ 64 ∧ (∀ q ∈ Vs, GF q) ∧ ∀ at_ : List Int, (at_.length : Int) = F → ∀ eq ∈ eqs, vF (Vs.map (vF at_)) eq = 0
theorem para_ev (N n : Nat) (hN : N ≤ 1000000) (hn : n ≤ 64) (xs : List S41) (hxl : xs.length = n) (hx : ∀ x ∈ xs, GF x ∧ ∀ v : Nat, n ≤ v → coefI x.f1 v = 0) (ps : List S96) (hps : ∀ p ∈ ps, PivOK N p) (hpl : ps.length ≤ 64) (hnd : (ps.map (fun p => p.f0)).Nodup) (eqs : List S41)
    (hs : ∀ y : List Int, y.length = 64 → satP ps y → ∀ eq ∈ eqs, vF (xs.map (vF y)) eq = 0) :
    ∃ r, Ev (fun k => euclid_para.f k xs ps 0 n) r ∧ (r.2.2.2.2.2 = 0 → r.2.2.1 = true ∧ Solved eqs n r.1 r.2.1) := by
  have hsk : ∀ x : S41, ∃ q : S41 × S88 × Int, GF x → Ev (fun k => euclid_clear.f k ps 0 x ⟨[], 0, false⟩) q ∧ GF q.1 ∧ (q.2.2 = 0 → ClearP ps x q.1) := by
    intro x
    by_cases h : GF x
    · obtain ⟨q, e, q1, _, q3⟩ := clear_ev N 0 hN ps hps (by omega) x ⟨[], 0, false⟩ h (fun h => by cases h)
      exact ⟨q, fun _ => ⟨e, q1, fun h => (q3 h).2⟩⟩
    · exact ⟨(x, ⟨[], 0, false⟩, 0), fun h2 => absurd h2 h⟩
  obtain ⟨Q, hQ⟩ := Classical.skolem.1 hsk
  obtain ⟨q, ev, q1, q2⟩ := para_l0 ps (euclid_nm ps n).1 Q (fun x h => ⟨(hQ x h).1, (hQ x h).2.1⟩) xs [] (fun x h => (hx x h).1)
  have hc : n ≤ 64 ∧ xs.length ≤ 64 ∧ ps.length ≤ 64 ∧ ∀ p ∈ ps, 0 ≤ p.f0 ∧ p.f0 < 64 := ⟨hn, by omega, hpl, fun p hp => (hps p hp).1⟩
  obtain ⟨⟨c1, c2⟩, c3, c4⟩ := nm_facts ps n
  by_cases hq : q.1 = true
  · refine ⟨(q.2.1, (euclid_nm ps n).2, true, [], 0, 0), Ev.pos hc (Ev.bind ev (Ev.pos hq (Ev.now fun _ => rfl))), fun _ => ⟨rfl, ?_⟩⟩
    obtain ⟨h1, h2⟩ := q2 hq
    rw [List.nil_append] at h1
    simp only
    rw [h1]
    have hmon : ∀ x ∈ xs, ∀ m ∈ (Q x).1.f1, 0 ≤ m.f0 ∧ m.f0 < (n : Int) ∧ euclid_fixed ps m.f0 = false := by
      intro x hxx m hm
      obtain ⟨hG, hB⟩ := hx x hxx
      obtain ⟨_, g1, g2⟩ := hQ x hG
      obtain ⟨_, k2, k3⟩ := g2 (h2 x hxx)
      have hv := rightL_mem _ (-1) g1.2.2 m hm
      have hcm := coefI_mem _ _ g1.2.2 m hm
      refine ⟨by omega, ?_, fixed_no fun p hp e => ?_⟩
      · apply Classical.byContradiction
        intro hlt
        have h3 := k3 m.f0 (by have := hB m.f0.toNat (by omega); rwa [show ((m.f0.toNat : Nat) : Int) = m.f0 by omega] at this)
        omega
      · have h3 := k2 p hp
        rw [e] at h3; omega
    have hnm : ∀ v : Int, 0 ≤ v → v < (n : Int) → euclid_fixed ps v = false → 0 ≤ (euclid_nm ps n).1 v ∧ (euclid_nm ps n).1 v < (euclid_nm ps n).2 := by
      intro v h0 hv hf
      have := c3 v.toNat (by omega) (by rwa [show ((v.toNat : Nat) : Int) = v by omega])
      rwa [show ((v.toNat : Nat) : Int) = v by omega] at this
    refine ⟨by rw [List.length_map]; exact hxl, c1, by omega, fun g hg => ?_, fun at_ hat eq heq => ?_⟩
    · obtain ⟨x, hxx, rfl⟩ := List.mem_map.1 hg
      have g1 := (hQ x (hx x hxx).1).2.1
      refine ⟨g1.1, fun m hm => ?_, ?_⟩
      · obtain ⟨a, ha, rfl⟩ := List.mem_map.1 hm
        obtain ⟨a1, a2, a3⟩ := hmon x hxx a ha
        have := hnm a.f0 a1 a2 a3
        exact ⟨⟨by simp only; omega, by simp only; omega⟩, (g1.2.1 a ha).2⟩
      · refine nmL_right _ (euclid_nm ps n).2 (by omega) _ (-1) (-1) g1.2.2 (fun m hm => ?_) (fun a ha b hb hab => ?_)
        · obtain ⟨a1, a2, a3⟩ := hmon x hxx m hm
          have := hnm m.f0 a1 a2 a3
          omega
        · obtain ⟨a1, a2, a3⟩ := hmon x hxx a ha
          obtain ⟨b1, b2, b3⟩ := hmon x hxx b hb
          have := c4 a.f0.toNat b.f0.toNat (by omega) (by omega) (by rwa [show ((a.f0.toNat : Nat) : Int) = a.f0 by omega]) (by rwa [show ((b.f0.toNat : Nat) : Int) = b.f0 by omega])
          rwa [show ((a.f0.toNat : Nat) : Int) = a.f0 by omega, show ((b.f0.toNat : Nat) : Int) = b.f0 by omega] at this
    · obtain ⟨y, y1, y2, y3⟩ := sat_ex N ps hps hnd ((List.range 64).map (fun (v : Nat) => xv at_ ((euclid_nm ps n).1 (v : Int)).toNat)) (by simp)
      have hfin := hs y y1 y2 eq heq
      have hmap : (xs.map (fun x => (⟨(Q x).1.f0, euclid_nmL (euclid_nm ps n).1 (Q x).1.f1⟩ : S41))).map (vF at_) = xs.map (vF y) := by
        rw [List.map_map]
        refine List.map_congr_left fun x hxx => ?_
        obtain ⟨hG, hB⟩ := hx x hxx
        obtain ⟨_, g1, g2⟩ := hQ x hG
        rw [← (g2 (h2 x hxx)).1 y y1 y2]
        simp only [Function.comp, vF]
        rw [valL_nm _ at_ y _ fun m hm => ?_]
        obtain ⟨a1, a2, a3⟩ := hmon x hxx m hm
        refine ⟨a1, (hnm m.f0 a1 a2 a3).1, ?_⟩
        have hm0 : ((m.f0.toNat : Nat) : Int) = m.f0 := by omega
        rw [y3 m.f0.toNat (by rw [hm0]; exact fixed_is a3)]
        rw [xv_gen _ _ (by omega), hm0]
      rw [hmap]
      exact hfin
  · refine ⟨([], 0, false, [], 0, q.2.2), Ev.pos hc (Ev.bind ev (Ev.neg hq (Ev.now fun _ => rfl))), fun h => absurd h (q1 (by simpa using hq))⟩
theorem sumD_fine (l0 : List S41) (l1 : List Int) : R64 (sumD l0 l1).1 ∧ M64 (sumD l0 l1).2.1 ∧ (sumD l0 l1).2.1.length ≤ 64 ∧ rightL (-1) (sumD l0 l1).2.1 = true := by
  unfold sumD
  split
  · exact sumR_fine _
  · refine ⟨⟨by simp, by simp⟩, ?_, by simp, rfl⟩
    intro m hm
    cases hm
def fewD (l : List S41) : Bool := if (l.length : Int) > 80 then false else l.all fun q => decide (q.f1.length ≤ 80)
theorem few_l0 (l : List S41) (hlen : l.length ≤ 1000000) : ∀ (n i : Nat), l.length - i = n → i ≤ l.length → Ev (fun k => sequiturlaw29_few.l0 k l (l.length : Int) i) ((l.drop i).all fun q => decide (q.f1.length ≤ 80)) := by
  intro n
  induction n with
  | zero =>
    intro i h1 h2
    refine Ev.succ (Ev.now fun k => ?_)
    simp only [sequiturlaw29_few.l0]
    rw [if_neg (by omega), List.drop_eq_nil_of_le (by omega)]; rfl
  | succ n ih =>
    intro i h1 h2
    have hi : i < l.length := by omega
    rw [List.drop_eq_getElem_cons hi, List.all_cons]
    refine Ev.succ ?_
    simp only [sequiturlaw29_few.l0]
    rw [rdQ_at l i hi]
    refine Ev.pos (by omega) (Ev.pos (by omega) (Ev.pos (by omega) ?_))
    by_cases e : l[i].f1.length ≤ 80
    · refine Ev.neg (by omega) (((ih (i+1) (by omega) (by omega)).of fun k => ?_).val ?_)
      · rw [w64 (by omega) (by omega)]; rfl
      · rw [decide_eq_true e, Bool.true_and]
    · refine Ev.pos (by omega) (Ev.now fun _ => ?_)
      rw [decide_eq_false e]; rfl
theorem few_ev (l : List S41) : Ev (fun k => sequiturlaw29_few.f k l) (fewD l) := by
  unfold fewD
  by_cases e : (l.length : Int) > 80
  · rw [if_pos e]
    exact Ev.pos e (Ev.now fun _ => rfl)
  · rw [if_neg e]
    refine Ev.neg e ((few_l0 l (by omega) _ 0 rfl (by omega)).val ?_)
    rw [List.drop_zero]
theorem few_is {l : List S41} (h : fewD l = true) : l.length ≤ 80 ∧ ∀ q ∈ l, q.f1.length ≤ 80 := by
  unfold fewD at h
  split at h
  · cases h
  · rename_i e
    exact ⟨by omega, fun q hq => by simpa using List.all_eq_true.1 h q hq⟩
theorem alive29_ev : Ev (fun k => sequiturlaw29_alive.f k) true := Ev.mono 200 sequiturlaw29_alive.mono (by decide +kernel)
/-- What the sum's numbers tell, mod div. -/
def modD (d : Int) (K : Int) (L : List S44) : Int := if L.all (fun m => decide (Int.tmod m.f1 d = 0)) = true then (if Int.tmod K d = 0 then 30 else 0) else 30
def chkD (l0 : List S41) (l1 : List Int) (d : Int) : Int := if (l0.length : Int) = (l1.length : Int) ∧ ¬ d < 2 then (if (sumD l0 l1).2.2 = 0 then modD d (sumD l0 l1).1 (sumD l0 l1).2.1 else (sumD l0 l1).2.2) else 1
theorem chk_l0 (d : Int) (hd : ¬ d < 2) (K : Int) (L : List S44) (hL : L.length ≤ 64) : ∀ (n i : Nat), L.length - i = n → i ≤ L.length → Ev (fun k => euclid_Check.l0 k d L (L.length : Int) i K L) (modD d K (L.drop i)) := by
  intro n
  induction n with
  | zero =>
    intro i h1 h2
    refine Ev.succ ?_
    simp only [euclid_Check.l0]
    rw [List.drop_eq_nil_of_le (by omega)]
    refine Ev.neg (by omega) (Ev.neg (by omega) ?_)
    unfold modD
    rw [List.all_nil, if_pos rfl]
    exact Ev.now fun k => by split <;> rfl
  | succ n ih =>
    intro i h1 h2
    have hi : i < L.length := by omega
    refine Ev.succ ?_
    simp only [euclid_Check.l0]
    rw [rdM_at L i hi]
    refine Ev.pos (by omega) (Ev.pos (by omega) (Ev.pos (by omega) (Ev.neg (by omega) ?_)))
    by_cases e : Int.tmod L[i].f1 d = 0
    · refine Ev.pos e (((ih (i+1) (by omega) (by omega)).of fun k => ?_).val ?_)
      · rw [w64 (by omega) (by omega)]; rfl
      · unfold modD; rw [List.drop_eq_getElem_cons hi, List.all_cons, decide_eq_true e, Bool.true_and]
    · refine Ev.neg e (Ev.now fun _ => ?_)
      unfold modD
      rw [List.drop_eq_getElem_cons hi, List.all_cons, decide_eq_false e, Bool.false_and]; rfl
theorem Check_ev (l0 : List S41) (l1 : List Int) (d : Int) (h0 : ∀ q ∈ l0, R64 q.f0 ∧ M64 q.f1 ∧ q.f1.length ≤ 9223372036854775807) (h1 : I64 l1) (hlen : l0.length ≤ 1000000) :
    Ev (fun k => euclid_Check.f k l0 l1 d) (chkD l0 l1 d) := by
  have hj : Ev (fun k => euclid_Check.j0 k l0 l1 d true) 1 := by
    refine Ev.succ ?_
    simp only [euclid_Check.j0]
    exact Ev.pos trivial (Ev.now fun _ => rfl)
  unfold chkD
  by_cases he : (l0.length : Int) = (l1.length : Int)
  · refine Ev.pos he ?_
    by_cases hd : d < 2
    · rw [if_neg (fun h => h.2 hd), decide_eq_true hd]; exact hj
    · rw [if_pos ⟨he, hd⟩, decide_eq_false hd]
      have hf := sumD_fine l0 l1
      refine Ev.succ ?_
      simp only [euclid_Check.j0]
      refine Ev.neg (by simp) (Ev.bind (linSum_ev l0 l1 h0 h1 hlen) ?_)
      by_cases e : (sumD l0 l1).2.2 = 0
      · rw [if_pos e]
        refine Ev.pos e ((chk_l0 d hd _ _ hf.2.2.1 _ 0 rfl (by omega)).val ?_)
        rw [List.drop_zero]
      · rw [if_neg e]; exact Ev.neg e (Ev.now fun _ => rfl)
  · rw [if_neg (fun h => he h.1)]; exact Ev.neg he hj
theorem rightL_last : ∀ (l : List S44) (last : Int), rightL last l = true → ∀ (h : 0 < l.length), ∀ m ∈ l, m.f0 ≤ (l[l.length - 1]'(by omega)).f0 := by
  intro l
  induction l with
  | nil => intro _ _ h; simp at h
  | cons a l ih =>
    intro last h hl m hm
    simp only [rightL, Bool.and_eq_true, decide_eq_true_eq] at h
    by_cases e : l.length = 0
    · have : l = [] := List.length_eq_zero_iff.1 e
      subst this
      rw [List.mem_singleton] at hm
      subst hm; simp
    · have hg : (a :: l)[(a :: l).length - 1]'(by simp) = l[l.length - 1]'(by omega) := by
        simp only [List.length_cons, Nat.add_sub_cancel]
        rw [List.getElem_cons, dif_neg e]
      rw [hg]
      rcases List.mem_cons.1 hm with e2 | e2
      · subst e2
        have := (rightL_mem l m.f0 h.2 _ (List.getElem_mem (show l.length - 1 < l.length by omega))).1
        omega
      · exact ih a.f0 h.2 (by omega) m e2
theorem asked_l0 (l : List S41) (n : Int) (hl : l.length ≤ 1000000) (hm : ∀ q ∈ l, q.f1.length ≤ 80) : ∀ (d i : Nat), l.length - i = d → i ≤ l.length → ∃ e, Ev (fun k => euclid_asked.l0 k n l (l.length : Int) i) e ∧ (e = 0 → ∀ q ∈ l.drop i, rightL (-1) q.f1 = true ∧ ∀ m ∈ q.f1, m.f0 < n) := by
  intro d
  induction d with
  | zero =>
    intro i h1 h2
    refine ⟨0, Ev.succ ?_, fun _ q hq => ?_⟩
    · simp only [euclid_asked.l0]
      exact Ev.neg (by omega) (Ev.now fun _ => rfl)
    · rw [List.drop_eq_nil_of_le (by omega)] at hq; cases hq
  | succ d ih =>
    intro i h1 h2
    have hi : i < l.length := by omega
    have hlen := hm _ (List.getElem_mem hi)
    have hR := iRight_ev l[i].f0 l[i].f1 true (by omega)
    obtain ⟨e, ev, he⟩ := ih (i+1) (by omega) (by omega)
    have pre : ∀ v, Ev (fun k => (ineq_Right.f k l[i].f0 l[i].f1 true).bind fun t140 => (if t140 = 0 then (if ((l[i].f1).length : Int) > 0 then (if 0 ≤ (wrap64 (((l[i].f1).length : Int) - 1)) then (if (wrap64 (((l[i].f1).length : Int) - 1)) < ((l[i].f1).length : Int) then (if ((rd_T44 (l[i].f1) (wrap64 (((l[i].f1).length : Int) - 1))).f0) ≥ n then (some 1) else (euclid_asked.l0 k n l (l.length : Int) ((i+1 : Nat) : Int))) else (none)) else (none)) else (euclid_asked.l0 k n l (l.length : Int) ((i+1 : Nat) : Int))) else (some 1))) v → Ev (fun k => euclid_asked.l0 k n l (l.length : Int) i) v := by
      intro v h
      refine Ev.succ ?_
      simp only [euclid_asked.l0]
      rw [rdQ_at l i hi, show wrap64 ((i:Int) + 1) = ((i+1 : Nat) : Int) by rw [w64 (by omega) (by omega)]; omega]
      exact Ev.pos (by omega) (Ev.pos (by omega) (Ev.pos (by omega) h))
    rw [List.drop_eq_getElem_cons hi]
    by_cases r : rightL (-1) l[i].f1 = true
    · rw [if_pos r] at hR
      by_cases z : l[i].f1.length = 0
      · refine ⟨e, pre e (Ev.bind hR (Ev.pos rfl (Ev.neg (by omega) ev))), fun h0 q hq => ?_⟩
        rcases List.mem_cons.1 hq with e2 | e2
        · subst e2
          refine ⟨r, fun m hm => ?_⟩
          rw [List.length_eq_zero_iff.1 z] at hm; cases hm
        · exact he h0 q e2
      · have hw : wrap64 (((l[i].f1).length : Int) - 1) = ((l[i].f1.length - 1 : Nat) : Int) := by rw [w64 (by omega) (by omega)]; omega
        rw [hw] at pre
        rw [rdM_at l[i].f1 (l[i].f1.length - 1) (by omega)] at pre
        by_cases c : (l[i].f1[l[i].f1.length - 1]'(by omega)).f0 ≥ n
        · exact ⟨1, pre 1 (Ev.bind hR (Ev.pos rfl (Ev.pos (by omega) (Ev.pos (by omega) (Ev.pos (by omega) (Ev.pos c (Ev.now fun _ => rfl))))))), fun h => by simp at h⟩
        · refine ⟨e, pre e (Ev.bind hR (Ev.pos rfl (Ev.pos (by omega) (Ev.pos (by omega) (Ev.pos (by omega) (Ev.neg c ev)))))), fun h0 q hq => ?_⟩
          rcases List.mem_cons.1 hq with e2 | e2
          · subst e2
            exact ⟨r, fun m hm => by have := rightL_last _ (-1) r (by omega) m hm; omega⟩
          · exact he h0 q e2
    · rw [if_neg r] at hR
      exact ⟨1, pre 1 (Ev.bind hR (Ev.neg (by simp) (Ev.now fun _ => rfl))), fun h => by simp at h⟩
theorem asked_ev (l : List S41) (n : Int) (hl : l.length ≤ 1000000) (h0 : ∀ q ∈ l, R64 q.f0 ∧ M64 q.f1 ∧ q.f1.length ≤ 80) : ∃ e, Ev (fun k => euclid_asked.f k l n) e ∧ (e = 0 → (0 ≤ n ∧ n ≤ 64 ∧ l.length ≤ 64) ∧ ∀ q ∈ l, GF q ∧ ∀ m ∈ q.f1, m.f0 < n) := by
  have hj : Ev (fun k => euclid_asked.j0 k l n true) 1 := by
    refine Ev.succ ?_
    simp only [euclid_asked.j0]
    exact Ev.pos trivial (Ev.now fun _ => rfl)
  by_cases hn : n < 0
  · exact ⟨1, Ev.pos hn hj, fun h => by simp at h⟩
  · by_cases hn2 : n > 64
    · exact ⟨1, Ev.neg hn (by rw [decide_eq_true hn2]; exact hj), fun h => by simp at h⟩
    · by_cases hb : (l.length : Int) > 64
      · refine ⟨2, Ev.neg hn ?_, fun h => by simp at h⟩
        rw [decide_eq_false hn2]
        refine Ev.succ ?_
        simp only [euclid_asked.j0]
        exact Ev.neg (by simp) (Ev.pos hb (Ev.now fun _ => rfl))
      · obtain ⟨e, ev, he⟩ := asked_l0 l n hl (fun q hq => (h0 q hq).2.2) _ 0 rfl (by omega)
        refine ⟨e, Ev.neg hn ?_, fun h => ⟨by omega, fun q hq => ?_⟩⟩
        · rw [decide_eq_false hn2]
          refine Ev.succ ?_
          simp only [euclid_asked.j0]
          exact Ev.neg (by simp) (Ev.neg hb ev)
        · have := he h q (by rw [List.drop_zero]; exact hq)
          exact ⟨⟨(h0 q hq).1, (h0 q hq).2.1, this.1⟩, this.2⟩
theorem wit_j1 (x : Int) (b : Bool) (r : List Int) (d : Int) (c : Bool) (hx : R64 x) (hr : I64 r) : ∃ q, Ev (fun k => euclid_witness.j1 k x b r d c) q ∧ (q.2.2 = 0 → I64 q.1) := by
  by_cases hb : b = true
  · by_cases hk : (fitI (x + 1)).2 = true
    · refine ⟨(r, (fitI (x + 1)).1, 0), Ev.succ ?_, fun _ => hr⟩
      simp only [euclid_witness.j1]
      exact Ev.pos hb (Ev.bind (Ev.now fun _ => Add_eq hx.1 hx.2 (by omega) (by omega)) (Ev.pos hk (Ev.now fun _ => rfl)))
    · refine ⟨([], 0, 5), Ev.succ ?_, fun h => by simp at h⟩
      simp only [euclid_witness.j1]
      exact Ev.pos hb (Ev.bind (Ev.now fun _ => Add_eq hx.1 hx.2 (by omega) (by omega)) (Ev.neg hk (Ev.now fun _ => rfl)))
  · refine ⟨([], 0, 5), Ev.succ ?_, fun h => by simp at h⟩
    simp only [euclid_witness.j1]
    exact Ev.neg hb (Ev.now fun _ => rfl)
theorem wit_ev (N : Nat) (r : S88) (hr : RowOK N r) (a K : Int) (hK : R64 K) (ha : R64 a) : ∃ q, Ev (fun k => euclid_witness.f k r.f0 r.f1 r.f2 a K) q ∧ (q.2.2 = 0 → I64 q.1) := by
  have fR : ∀ n : Int, R64 (fitI n).1 := fun n => by
    unfold fitI
    split
    · assumption
    · exact ⟨by simp, by simp⟩
  by_cases r2 : r.f2 = true
  · obtain ⟨r3, r4, r5, r6⟩ := hr r2
    by_cases a0 : a = 0
    · have hm := Mul_eq hK.1 hK.2 (show -9223372036854775808 ≤ r.f1 by omega) r5
      have hj : ∀ b c : Bool, ∃ q, Ev (fun k => euclid_witness.j0 k (fitI (K * r.f1)).1 b c r.f0 r.f1 r.f2) q ∧ (q.2.2 = 0 → I64 q.1) := by
        intro b c
        by_cases hc : c = true
        · obtain ⟨q, e, hq⟩ := wit_j1 (fitI (-(fitI (K * r.f1)).1)).1 (fitI (-(fitI (K * r.f1)).1)).2 r.f0 r.f1 r.f2 (fR _) r6
          refine ⟨q, Ev.succ ?_, hq⟩
          simp only [euclid_witness.j0]
          exact Ev.pos hc (Ev.bind (Ev.now fun _ => Neg29 (fR _)) e)
        · obtain ⟨q, e, hq⟩ := wit_j1 (fitI (K * r.f1)).1 b r.f0 r.f1 r.f2 (fR _) r6
          refine ⟨q, Ev.succ ?_, hq⟩
          simp only [euclid_witness.j0]
          exact Ev.neg hc e
      by_cases b1 : (fitI (K * r.f1)).2 = true
      · obtain ⟨q, e, hq⟩ := hj (fitI (K * r.f1)).2 (decide ((fitI (K * r.f1)).1 < 0))
        exact ⟨q, Ev.pos r2 (Ev.pos a0 (Ev.bind (Ev.now fun _ => hm) (Ev.pos b1 e))), hq⟩
      · obtain ⟨q, e, hq⟩ := hj (fitI (K * r.f1)).2 false
        exact ⟨q, Ev.pos r2 (Ev.pos a0 (Ev.bind (Ev.now fun _ => hm) (Ev.neg b1 e))), hq⟩
    · have fin : ∀ (x : Int) (p : Prop) [Decidable p], ∃ q : List Int × Int × Int, Ev (fun _ => if (fitI x).2 = true then (if p then some ([], 0, 5) else some (r.f0, (fitI x).1, 0)) else some ([], 0, 5)) q ∧ (q.2.2 = 0 → I64 q.1) := by
        intro x p _
        by_cases b1 : (fitI x).2 = true
        · by_cases b2 : p
          · exact ⟨_, Ev.pos b1 (Ev.pos b2 (Ev.now fun _ => rfl)), fun h => by simp at h⟩
          · exact ⟨_, Ev.pos b1 (Ev.neg b2 (Ev.now fun _ => rfl)), fun _ => r6⟩
        · exact ⟨_, Ev.neg b1 (Ev.now fun _ => rfl), fun h => by simp at h⟩
      by_cases an : a < 0
      · obtain ⟨q, e, hq⟩ := fin (r.f1 * wrap64 (-a)) (wrap64 (-a) < 0)
        exact ⟨q, Ev.pos r2 (Ev.neg a0 (Ev.pos an (Ev.bind (Ev.now fun _ => Mul_eq (show -9223372036854775808 ≤ r.f1 by omega) r5 (wrap_R64 _).1 (wrap_R64 _).2) e))), hq⟩
      · obtain ⟨q, e, hq⟩ := fin (r.f1 * a) False
        exact ⟨q, Ev.pos r2 (Ev.neg a0 (Ev.neg an (Ev.bind (Ev.now fun _ => Mul_eq (show -9223372036854775808 ≤ r.f1 by omega) r5 ha.1 ha.2) (e.of fun k => by simp)))), hq⟩
  · exact ⟨_, Ev.neg r2 (Ev.now fun _ => rfl), fun h => by simp at h⟩
/-- What a run tells. -/
def RunP (eqs : List S41) (n : Nat) (r : List S41 × Int × Bool × List Int × Int × Int) : Prop := r.2.2.2.2.2 = 0 → (r.2.2.1 = true ∧ Solved eqs n r.1 r.2.1) ∨ (r.2.2.1 = false ∧ I64 r.2.2.2.1 ∧ Ev (fun k => euclid_Check.f k eqs r.2.2.2.1 r.2.2.2.2.1) 0)
theorem run_l0 (eqs : List S41) (n : Nat) (hn : n ≤ 64) (hel : eqs.length ≤ 64) (heq : ∀ q ∈ eqs, GF q ∧ ∀ m ∈ q.f1, m.f0 < (n : Int)) : ∀ (rest : List S41) (i : Nat) (xs : List S41) (ps : List S96), eqs.drop i = rest → i ≤ eqs.length → xs.length = n → (∀ x ∈ xs, GF x ∧ ∀ v : Nat, n ≤ v → coefI x.f1 v = 0) → (∀ p ∈ ps, PivOK eqs.length p) → ps.length ≤ i → (ps.map (fun p => p.f0)).Nodup →
    (∀ y : List Int, y.length = 64 → satP ps y → ∀ eq ∈ eqs.take i, vF (xs.map (vF y)) eq = 0) → ∃ r, Ev (fun k => euclid_run.l0 k eqs n rest i xs ps) r ∧ RunP eqs n r := by
  intro rest
  induction rest with
  | nil =>
    intro i xs ps hd hi hxl hx hps hpl hnd hs
    have hi2 : eqs.length ≤ i := List.drop_eq_nil_iff.1 hd
    rw [List.take_of_length_le hi2] at hs
    obtain ⟨r, e, hr⟩ := para_ev eqs.length n (by omega) hn xs hxl hx ps hps (by omega) hnd eqs hs
    exact ⟨r, e.of fun k => by simp only [euclid_run.l0], fun h => .inl (hr h)⟩
  | cons y rest ih =>
    intro i xs ps hd hi hxl hx hps hpl hnd hs
    have hi2 : i < eqs.length := by
      apply Classical.byContradiction
      intro h
      rw [List.drop_eq_nil_of_le (by omega)] at hd; cases hd
    rw [List.drop_eq_getElem_cons hi2] at hd
    obtain ⟨hy, hrest⟩ := List.cons.inj hd
    subst hy
    obtain ⟨hyG, hyv⟩ := heq _ (List.getElem_mem hi2)
    have hxG : ∀ x ∈ xs, GF x := fun x hxx => (hx x hxx).1
    obtain ⟨o, eo, o1, o2⟩ := over_ev xs hxG eqs[i] hyG (fun m hm => by have := hyv m hm; omega)
    have hrow : RowOK eqs.length ⟨(List.replicate eqs.length (0 : Int)).set i 1, 1, true⟩ := by
      intro _
      refine ⟨by simp, by simp, by simp, I64_set (fun x hxx => ?_) _ _ ⟨by simp, by simp⟩⟩
      rw [List.eq_of_mem_replicate hxx]; exact ⟨by simp, by simp⟩
    obtain ⟨c, ec, c1, c2, c3⟩ := clear_ev eqs.length o.2 (by omega) ps hps (by omega) o.1 ⟨(List.replicate eqs.length (0 : Int)).set i 1, 1, true⟩ o1 hrow
    obtain ⟨d, ed, d1, d2, d3⟩ := reduce_ev n c.1 xs c.2.2 c1 hxG (by
      intro h0 m hm
      apply Classical.byContradiction
      intro hlt
      obtain ⟨h4, h5⟩ := c3 h0
      have hv := rightL_mem _ (-1) c1.2.2 m hm
      have h6 := h5.2.2 m.f0 (by
        have := (o2 h4).2 m.f0.toNat (fun x hxx => (hx x hxx).2 _ (by omega))
        rwa [show ((m.f0.toNat : Nat) : Int) = m.f0 by omega] at this)
      have h7 := coefI_mem _ _ c1.2.2 m hm
      omega)
    have pre : ∀ r, Ev (fun k => if d.2.2 = 0 then
        (if (if d.1.f1.length = 1 then (rd_T44 d.1.f1 0).f1 else 0) = 0 then some d.1.f0 else (num_Mod.f d.1.f0 (if d.1.f1.length = 1 then (rd_T44 d.1.f1 0).f1 else 0)).bind fun m => some m.1).bind fun re =>
          if re = 0 then
            (if (if d.1.f1.length = 1 then (rd_T44 d.1.f1 0).f1 else 0) = 0 then euclid_run.l0 k eqs n rest (i + 1) d.2.1 ps else euclid_run.l0 k eqs n rest (i + 1) d.2.1 (ps ++ [⟨(rd_T44 d.1.f1 0).f0, (if d.1.f1.length = 1 then (rd_T44 d.1.f1 0).f1 else 0), d.1.f0, c.2.1⟩]))
          else (euclid_witness.f k c.2.1.f0 c.2.1.f1 c.2.1.f2 (if d.1.f1.length = 1 then (rd_T44 d.1.f1 0).f1 else 0) d.1.f0).bind fun wi => (if wi.2.2 = 0 then euclid_Check.f k eqs wi.1 wi.2.1 else some wi.2.2).bind fun e => if e = 0 then some ([], 0, false, wi.1, wi.2.1, 0) else some ([], 0, false, [], 0, 5)
      else some ([], 0, false, [], 0, d.2.2)) r → Ev (fun k => euclid_run.l0 k eqs n (eqs[i] :: rest) i xs ps) r := by
      intro r h
      simp only [euclid_run.l0]
      exact Ev.bind eo (Ev.bind ec (Ev.bind ed h))
    by_cases z : d.2.2 = 0
    · obtain ⟨e1, e2, e3, e4, e5⟩ := d3 z
      obtain ⟨e6, e7⟩ := c3 e1
      have e8 := o2 e6
      have hL : (d.1.f1 = [] ∧ (if d.1.f1.length = 1 then (rd_T44 d.1.f1 0).f1 else 0) = 0) ∨ ∃ m, d.1.f1 = [m] ∧ (if d.1.f1.length = 1 then (rd_T44 d.1.f1 0).f1 else 0) = m.f1 ∧ m.f1 ≠ 0 ∧ rd_T44 d.1.f1 0 = m := by
        match hL : d.1.f1 with
        | [] => exact .inl ⟨rfl, rfl⟩
        | [m] => exact .inr ⟨m, rfl, rfl, (rightL_mem _ (-1) d1.2.2 m (by rw [hL]; simp)).2.2, rfl⟩
        | _ :: _ :: _ => rw [hL] at e2; simp at e2
      generalize hA : (if d.1.f1.length = 1 then (rd_T44 d.1.f1 0).f1 else 0) = A at pre hL
      have hre : ∃ re, Ev (fun (_ : Nat) => if A = 0 then some d.1.f0 else (num_Mod.f d.1.f0 A).bind fun m => some m.1) re ∧ (re = 0 → A = 0 → d.1.f0 = 0) ∧ (re = 0 → A ≠ 0 → A ∣ d.1.f0) := by
        by_cases a0 : A = 0
        · exact ⟨_, Ev.pos a0 (Ev.now fun _ => rfl), fun h _ => h, fun _ h => absurd a0 h⟩
        · have hAR : R64 A := by
            rcases hL with ⟨_, h⟩ | ⟨m, h1, h2, _⟩
            · exact absurd h a0
            · rw [h2]; exact (d1.2.1 m (by rw [h1]; simp)).2
          obtain ⟨m, hm, hm2⟩ := Mod29 (a := d.1.f0) hAR a0
          exact ⟨_, Ev.neg a0 (Ev.bind (Ev.now fun _ => hm) (Ev.now fun _ => rfl)), fun _ h => absurd h a0, fun h _ => hm2 h⟩
      obtain ⟨re, ere, r1, r2⟩ := hre
      obtain ⟨σ, hσ⟩ := e3
      have hzl : d.2.1.length = n := by
        have := (hσ (List.replicate 64 0) (by simp)).2.2.2
        have h2 := congrArg List.length this
        rw [List.length_map, List.length_map] at h2
        omega
      have hz : ∀ x ∈ d.2.1, GF x ∧ ∀ v : Nat, n ≤ v → coefI x.f1 v = 0 := fun x hxx => ⟨d2 x hxx, fun v hv => e5 v hv (fun a ha => (hx a ha).2 v hv) x hxx⟩
      have hsat : ∀ y : List Int, y.length = 64 → satP ps y → vF y d.1 = 0 → ∀ eq ∈ eqs.take (i + 1), vF (d.2.1.map (vF y)) eq = 0 := by
        intro y hyl hys h0 eq heq2
        obtain ⟨s1, s2, s3, s4⟩ := hσ y hyl
        have hs2 : satP ps (σ y) := by
          intro p hp
          have hp1 := (hps p hp).1
          rw [s2 p.f0.toNat (fun hh => hh (by rw [show ((p.f0.toNat : Nat) : Int) = p.f0 by omega]; exact e7.2.1 p hp))]
          exact hys p hp
        rw [s4]
        rw [List.take_succ_eq_append_getElem hi2] at heq2
        rcases List.mem_append.1 heq2 with h | h
        · exact hs (σ y) s1 hs2 eq h
        · rw [List.mem_singleton] at h
          subst h
          rw [← e8.1, ← e7.1 (σ y) s1 hs2, ← s3, h0]
      by_cases hr0 : re = 0
      · by_cases a0 : A = 0
        · obtain ⟨r, er, hr⟩ := ih (i + 1) d.2.1 ps hrest (by omega) hzl hz hps (by omega) hnd (fun y hyl hys => hsat y hyl hys (by
            rcases hL with ⟨h, _⟩ | ⟨m, _, h2, h3, _⟩
            · unfold vF; rw [h, r1 hr0 a0]; simp [valL]
            · omega))
          exact ⟨r, pre r (Ev.pos z (Ev.bind ere (Ev.pos hr0 (Ev.pos a0 er)))), hr⟩
        · obtain ⟨m, h1, h2, h3, h4⟩ := hL.resolve_left (fun h => a0 h.2)
          have hmv := rightL_mem _ (-1) d1.2.2 m (by rw [h1]; simp)
          have hcm : coefI d.1.f1 m.f0 = m.f1 := coefI_mem _ _ d1.2.2 m (by rw [h1]; simp)
          have hnp : ∀ p ∈ ps, p.f0 ≠ m.f0 := by
            intro p hp e
            have := e4 p.f0 (e7.2.1 p hp)
            rw [e, hcm] at this
            exact h3 this
          rw [h4] at pre
          obtain ⟨r, er, hr⟩ := ih (i + 1) d.2.1 (ps ++ [⟨m.f0, A, d.1.f0, c.2.1⟩]) hrest (by omega) hzl hz (by
            intro p hp
            rcases List.mem_append.1 hp with h | h
            · exact hps p h
            · rw [List.mem_singleton] at h
              subst h
              exact ⟨by simp only; omega, a0, by simp only; rw [h2]; exact (d1.2.1 m (by rw [h1]; simp)).2, d1.1, r2 hr0 a0, c2⟩) (by simp; omega) (by
            rw [List.map_append, List.nodup_append]
            refine ⟨hnd, by simp, fun a ha b hb => ?_⟩
            obtain ⟨p, hp, rfl⟩ := List.mem_map.1 ha
            simp at hb
            subst hb
            exact hnp p hp) (fun y hyl hys => hsat y hyl (fun p hp => hys p (List.mem_append_left _ hp)) (by
              have := hys ⟨m.f0, A, d.1.f0, c.2.1⟩ (List.mem_append_right _ (List.mem_singleton_self _))
              simp only at this
              unfold vF
              rw [h1, valL_cons m [] y (by omega)]
              rw [h2] at this
              simp only [valL, List.foldl_nil]
              omega))
          exact ⟨r, pre r (Ev.pos z (Ev.bind ere (Ev.pos hr0 (Ev.neg a0 er)))), hr⟩
      · obtain ⟨wi, ew, hw⟩ := wit_ev eqs.length c.2.1 c2 A d.1.f0 d1.1 (by
          rcases hL with ⟨_, h⟩ | ⟨m, h1, h2, _⟩
          · rw [h]; exact ⟨by simp, by simp⟩
          · rw [h2]; exact (d1.2.1 m (by rw [h1]; simp)).2)
        by_cases w0 : wi.2.2 = 0
        · have hC := Check_ev eqs wi.1 wi.2.1 (fun q hq => ⟨(heq q hq).1.1, (heq q hq).1.2.1, by have := (heq q hq).1.len; omega⟩) (hw w0) (by omega)
          by_cases k0 : chkD eqs wi.1 wi.2.1 = 0
          · exact ⟨([], 0, false, wi.1, wi.2.1, 0), pre _ (Ev.pos z (Ev.bind ere (Ev.neg hr0 (Ev.bind ew (Ev.bind (Ev.pos w0 hC) (Ev.pos k0 (Ev.now fun _ => rfl))))))), fun _ => .inr ⟨rfl, hw w0, by rw [← k0]; exact hC⟩⟩
          · exact ⟨([], 0, false, [], 0, 5), pre _ (Ev.pos z (Ev.bind ere (Ev.neg hr0 (Ev.bind ew (Ev.bind (Ev.pos w0 hC) (Ev.neg k0 (Ev.now fun _ => rfl))))))), fun h => by simp at h⟩
        · exact ⟨([], 0, false, [], 0, 5), pre _ (Ev.pos z (Ev.bind ere (Ev.neg hr0 (Ev.bind ew (Ev.bind (Ev.neg w0 (Ev.now fun _ => rfl)) (Ev.neg w0 (Ev.now fun _ => rfl))))))), fun h => by simp at h⟩
    · exact ⟨([], 0, false, [], 0, d.2.2), pre _ (Ev.neg z (Ev.now fun _ => rfl)), fun h => absurd h z⟩
theorem run_ev (l : List S41) (n : Int) (hl : l.length ≤ 1000000) (h0 : ∀ q ∈ l, R64 q.f0 ∧ M64 q.f1 ∧ q.f1.length ≤ 80) :
    ∃ r, Ev (fun k => euclid_run.f k l n) r ∧ (r.2.2.2.2.2 = 0 → (0 ≤ n ∧ n ≤ 64) ∧ l.length ≤ 64 ∧ (∀ q ∈ l, GF q ∧ ∀ m ∈ q.f1, m.f0 < n) ∧ RunP l n.toNat r) := by
  obtain ⟨e, ea, h⟩ := asked_ev l n hl h0
  by_cases z : e = 0
  · obtain ⟨⟨n0, n1, n2⟩, hq⟩ := h z
    have hvl : (euclid_vars n.toNat).length = n.toNat := by simp [euclid_vars]
    obtain ⟨r, er, hr⟩ := run_l0 l n.toNat (by omega) n2 (fun q hq2 => ⟨(hq q hq2).1, fun m hm => by have := (hq q hq2).2 m hm; omega⟩) l 0 (euclid_vars n.toNat) [] (by simp) (by omega) hvl (by
      intro x hx
      obtain ⟨v, hv, rfl⟩ := List.mem_map.1 hx
      rw [List.mem_range] at hv
      refine ⟨⟨by simp [R64], fun m hm => ?_, ?_⟩, fun u hu => ?_⟩
      · rw [List.mem_singleton] at hm; subst hm; exact ⟨⟨by simp only; omega, by simp only; omega⟩, by simp⟩
      · simp only [rightL, Bool.and_eq_true, decide_eq_true_eq]
        exact ⟨⟨⟨by omega, by omega⟩, by omega⟩, trivial⟩
      · simp only [coefI]; rw [if_neg (by omega)]) (by intro p hp; cases hp) (by simp) (by simp) (by intro y _ _ eq h; simp at h)
    exact ⟨r, Ev.bind ea (Ev.pos z (Ev.pos ⟨n0, n1, n2⟩ er)), fun _ => ⟨⟨n0, n1⟩, n2, hq, hr⟩⟩
  · exact ⟨([], 0, false, [], 0, e), Ev.bind ea (Ev.neg z (Ev.now fun _ => rfl)), fun h => absurd h z⟩
theorem vS_zero (x : List Int) : ∀ (qs : List S41) (bs : List Int), (∀ q ∈ qs, vF x q = 0) → vS x (zipS qs bs) = 0 := by
  intro qs
  induction qs with
  | nil => intro bs _; simp [zipS, vS]
  | cons q qs ih =>
    intro bs h
    cases bs with
    | nil => simp [zipS, vS]
    | cons b bs =>
      have hI := ih bs (fun a ha => h a (List.mem_cons_of_mem _ ha))
      have hq := h q (List.mem_cons_self ..)
      unfold vF at hq
      simp only [zipS, List.zipWith_cons_cons, vS] at hI ⊢
      rw [hI, hq]; simp
theorem dvd_valL (d : Int) (x : List Int) : ∀ l : List S44, (∀ m ∈ l, 0 ≤ m.f0 ∧ d ∣ m.f1) → d ∣ valL l x := by
  intro l
  induction l with
  | nil => intro _; exact ⟨0, by simp [valL]⟩
  | cons m l ih =>
    intro h
    have hm := h m (List.mem_cons_self ..)
    rw [valL_cons m l x hm.1]
    exact Int.dvd_add (Int.dvd_mul_of_dvd_left hm.2) (ih (fun a ha => h a (List.mem_cons_of_mem _ ha)))
theorem no_wit (eqs : List S41) (hq : ∀ q ∈ eqs, GF q) (x : List Int) (hx : ∀ q ∈ eqs, vF x q = 0) (b : List Int) (hb : I64 b) (d : Int) : chkD eqs b d ≠ 0 := by
  intro h
  unfold chkD at h
  split at h
  · rename_i c
    split at h
    · rename_i c2
      have hall : eqs.all (fun q => rightL (-1) q.f1) = true := List.all_eq_true.2 fun q h => (hq q h).2.2
      have hD : sumD eqs b = sumR (zipS eqs b) := by unfold sumD; rw [if_pos ⟨hall, by omega⟩]
      rw [hD] at h c2
      have hG := zipS_G67 (fun q h => ⟨(hq q h).1, (hq q h).2.1⟩) hall hb
      have hv := sumR_val x _ hG c2
      rw [vS_zero x eqs b hx] at hv
      have hf := sumR_fine (zipS eqs b)
      unfold modD at h
      split at h
      · rename_i c3
        split at h
        · simp at h
        · rename_i c4
          have h1 : d ∣ valL (sumR (zipS eqs b)).2.1 x := dvd_valL d x _ fun m hm => ⟨(rightL_vars hf.2.2.2 m hm).1, Int.dvd_of_tmod_eq_zero (by simpa using List.all_eq_true.1 c3 m hm)⟩
          refine c4 (Int.tmod_eq_zero_of_dvd ?_)
          rw [show (sumR (zipS eqs b)).1 = -(valL (sumR (zipS eqs b)).2.1 x) by omega]
          exact Int.dvd_neg.2 h1
      · simp at h
    · rename_i c2; exact c2 h
  · simp at h
theorem EuclidNone_pure (l0 : List S41) (n : Int) (l2 : List Int) (d : Int) (h0 : ∀ q ∈ l0, R64 q.f0 ∧ M64 q.f1 ∧ q.f1.length ≤ maxLen) (h2 : I64 l2) :
    ∃ k, sequiturlaw29_EuclidNone.f k l0 n l2 d = some true := by
  refine Ev.at_ (f := fun k => sequiturlaw29_EuclidNone.f k l0 n l2 d) (Ev.bind (few_ev l0) ?_)
  have hj : Ev (fun k => sequiturlaw29_EuclidNone.j0 k l0 n l2 d true) true := by
    refine Ev.succ ?_
    simp only [sequiturlaw29_EuclidNone.j0]
    exact Ev.pos trivial (Ev.bind alive29_ev (Ev.now fun _ => rfl))
  by_cases hL : fewD l0 = true
  · refine Ev.pos hL ?_
    by_cases h100 : (l2.length : Int) > 100
    · rw [decide_eq_true h100]; exact hj
    · rw [decide_eq_false h100]
      have hf := few_is hL
      obtain ⟨r, er, hr⟩ := run_ev l0 n (by have := hf.1; omega) (fun q hq => ⟨(h0 q hq).1, (h0 q hq).2.1, hf.2 q hq⟩)
      have hS : Ev (fun k => euclid_Solve.f k l0 n) (r.1, r.2.1, r.2.2.1, r.2.2.2.2.2) := Ev.bind er (Ev.now fun _ => rfl)
      refine Ev.succ ?_
      simp only [sequiturlaw29_EuclidNone.j0]
      refine Ev.neg (by simp) (Ev.bind hS ?_)
      simp only
      by_cases z : r.2.2.2.2.2 = 0
      · obtain ⟨⟨n0, n1⟩, hl, hq, hP⟩ := hr z
        rcases hP z with ⟨ok, v1, v2, v3, v4, v5⟩ | ⟨ok, hI, hC⟩
        · have hW : Ev (fun k => euclid_Witness.f k l0 n) ([], 0, false, r.2.2.2.2.2) := Ev.bind er (Ev.pos z (Ev.pos ok (Ev.now fun _ => rfl)))
          have hC := Check_ev l0 l2 d (fun q hq2 => ⟨(hq q hq2).1.1, (hq q hq2).1.2.1, by have := (hq q hq2).1.len; omega⟩) h2 (by omega)
          have hno := no_wit l0 (fun q hq2 => (hq q hq2).1) (r.1.map (vF (List.replicate r.2.1.toNat 0))) (fun q hq2 => v5 _ (by rw [List.length_replicate]; omega) q hq2) l2 h2 d
          refine Ev.pos z (Ev.bind hW (Ev.pos z (Ev.neg (by rw [ok]; simp) (Ev.neg (by simp) (Ev.succ ?_)))))
          simp only [sequiturlaw29_EuclidNone.j1]
          exact Ev.neg (by simp) (Ev.pos ok (Ev.bind hC (Ev.neg hno (Ev.bind alive29_ev (Ev.now fun _ => rfl)))))
        · have hW : Ev (fun k => euclid_Witness.f k l0 n) (r.2.2.2.1, r.2.2.2.2.1, true, 0) := Ev.bind er (Ev.pos z (Ev.neg (by rw [ok]; simp) (Ev.now fun _ => rfl)))
          refine Ev.pos z (Ev.bind hW (Ev.pos rfl (Ev.neg (by rw [ok]; simp) (Ev.pos rfl (Ev.bind hC (Ev.succ ?_))))))
          simp only [sequiturlaw29_EuclidNone.j1]
          exact Ev.neg (by simp) (Ev.neg (by rw [ok]; simp) (Ev.bind alive29_ev (Ev.now fun _ => rfl)))
      · exact Ev.neg z (Ev.bind alive29_ev (Ev.now fun _ => rfl))
  · exact Ev.neg hL hj
open Go.ChangeShapes Go.WideShapes
theorem list_of {α : Type} (n : Nat) (p : Nat → α → Prop) (h : ∀ i, i < n → ∃ x, p i x) : ∃ l : List α, l.length = n ∧ ∀ i x, l[i]? = some x → p i x := by
  induction n with
  | zero => exact ⟨[], rfl, by simp⟩
  | succ n ih =>
    obtain ⟨l, hl, hp⟩ := ih (fun i hi => h i (by omega))
    obtain ⟨x, hx⟩ := h n (by omega)
    refine ⟨l ++ [x], by simp [hl], fun i y hy => ?_⟩
    rcases Nat.lt_or_ge i n with q | q
    · rw [List.getElem?_append_left (by omega)] at hy; exact hp i y hy
    · rw [List.getElem?_append_right (by omega)] at hy
      have : i - l.length = 0 := by
        rcases Nat.eq_zero_or_pos (i - l.length) with e | e
        · exact e
        · rw [List.getElem?_eq_none (by simp; omega)] at hy; cases hy
      rw [this] at hy
      obtain rfl : x = y := by simpa using hy
      rw [show i = n by omega]; exact hx
/-- An argument that is a slice, opened: a list of what its elements are. -/
theorem open_row {H : Type} {enc : TypeId × Value → H} {W : World} {held : Bool} {α : Type} (d : Kd α) (Q : α → Prop) {t e : TypeId} {spare : Nat → Bool} {fuel : Nat} {A : Option Addr} {n c : Nat} {x : DataW H × List MemPlace}
    (ht : Try.prog.underlying t = some (.slice e)) (hsz : Try.prog.cellsOf e = d.sz)
    (ho : ∀ m cs y, DataW.trod enc Try.prog W 0 spare held m e cs = some y → ∃ x, d.K W x cs ∧ Q x)
    (h : DataW.trod enc Try.prog W 0 spare held fuel t [.slice A n c] = some x) :
    ∃ l : List α, l.length = n ∧ n ≤ c ∧ c ≤ maxLen ∧ d.C W A n l ∧ ∀ x ∈ l, Q x := by
  rcases Go.Deep.open_slice ht h with ⟨hcs, _⟩ | ⟨a, len, cap, m, n', D, Pl, hcs, _, hl, hm, hmm, _, hi⟩
  · simp at hcs
    obtain ⟨rfl, rfl, rfl⟩ := hcs
    exact ⟨[], rfl, Nat.le_refl _, Nat.zero_le _, Kd.C_nil d W, by simp⟩
  · simp at hcs
    obtain ⟨rfl, rfl, rfl⟩ := hcs
    have hmn : n ≤ m := by rw [hmm]; split <;> omega
    obtain ⟨l, h1, h2⟩ := list_of n (fun i x => (∃ cs, cs.length = d.sz ∧ d.K W x cs ∧ ∀ j u, cs[j]? = some u → W.cell? (a.add (i * d.sz + j)) = some u) ∧ Q x) (fun i hin => by
      obtain ⟨cs, hc, hx⟩ := hi i (by omega)
      obtain ⟨x, hK, hQ⟩ := ho _ _ _ hx
      obtain ⟨_, hlen, hat⟩ := World.cells?_some hc
      refine ⟨x, ⟨cs, hlen.trans hsz, hK, fun j u hj => ?_⟩, hQ⟩
      have hjl : j < cs.length := by
        rcases Nat.lt_or_ge j cs.length with q | q
        · exact q
        · rw [List.getElem?_eq_none q] at hj; cases hj
      rw [← hj, ← hat j (by omega), hsz, Go.Deep.add_add])
    refine ⟨l, h1, hl, hm, ⟨h1, ?_, fun _ => ⟨a, rfl, fun j p hj => (h2 j p hj).1⟩⟩, fun x hx => ?_⟩
    · have : maxLen = 9223372036854775807 := rfl
      omega
    · obtain ⟨i, hi', he⟩ := List.getElem_of_mem hx
      exact (h2 i x (by rw [List.getElem?_eq_getElem hi', he])).2
theorem open_int1 {H : Type} {enc : TypeId × Value → H} {W : World} {held : Bool} {spare : Nat → Bool} {m : Nat} {e : TypeId} (hu : Try.prog.underlying e = some (.int .i64)) (cs : List Value) (y : DataW H × List MemPlace) (h : DataW.trod enc Try.prog W 0 spare held m e cs = some y) :
    ∃ x : Int, (Kd.int .i64).K W x cs ∧ (-9223372036854775808 ≤ x ∧ x ≤ 9223372036854775807) := by
  obtain ⟨n, rfl, _, hw⟩ := DataW.trod_int hu h
  exact ⟨n, rfl, wf64 hw⟩
theorem open_ints1 {H : Type} {enc : TypeId × Value → H} {W : World} {held : Bool} {spare : Nat → Bool} {fuel : Nat} {t e : TypeId} {A : Option Addr} {n c : Nat} {x : DataW H × List MemPlace} (hu : Try.prog.underlying t = some (.slice e)) (he : Try.prog.underlying e = some (.int .i64)) (hc : Try.prog.cellsOf e = 1)
    (h : DataW.trod enc Try.prog W 0 spare held fuel t [.slice A n c] = some x) :
    ∃ l : List Int, l.length = n ∧ n ≤ c ∧ c ≤ maxLen ∧ Kd.C (Kd.int .i64) W A n l ∧ I64 l :=
  open_row (Kd.int .i64) _ hu hc (fun _ cs y h => open_int1 he cs y h) h
/-- A monomial's cells. -/
theorem open_mono {H : Type} {enc : TypeId × Value → H} {W : World} {held : Bool} {spare : Nat → Bool} {m : Nat} (cs : List Value) (y : DataW H × List MemPlace) (h : DataW.trod enc Try.prog W 0 spare held m 44 cs = some y) :
    ∃ x : S44, k44.K W x cs ∧ ((-9223372036854775808 ≤ x.f0 ∧ x.f0 ≤ 9223372036854775807) ∧ -9223372036854775808 ≤ x.f1 ∧ x.f1 ≤ 9223372036854775807) := by
  obtain ⟨y0, y1, n, _, hl, h0, h1⟩ := trod_struct2 Try.underlying44 h
  have e0 : Try.prog.cellsOf 3 = 1 := by kernel_rfl
  have e1 : Try.prog.cellsOf 2 = 1 := by kernel_rfl
  have e2 : Try.prog.cellsOf 44 = 2 := by kernel_rfl
  simp only [e0, e1] at h0 h1
  rw [e2] at hl
  match cs, hl with
  | [c0, c1], _ =>
    obtain ⟨a, ha, _, hw⟩ := DataW.trod_int Try.underlying3 h0
    obtain ⟨b, hb, _, hw2⟩ := DataW.trod_int Try.underlying2 h1
    simp at ha hb
    subst ha hb
    exact ⟨⟨a, b⟩, k44_mk W ⟨a, b⟩, wf64 hw, wf64 hw2⟩
/-- A form's cells. -/
theorem open_lin {H : Type} {enc : TypeId × Value → H} {W : World} {held : Bool} {spare : Nat → Bool} {m : Nat} (cs : List Value) (y : DataW H × List MemPlace) (h : DataW.trod enc Try.prog W 0 spare held m 41 cs = some y) :
    ∃ (x : S41) (A : Option Addr) (c : Nat), cs = [.int .i64 x.f0, .slice A x.f1.length c] ∧ x.f1.length ≤ c ∧ c ≤ maxLen ∧ Kd.C k44 W A x.f1.length x.f1 ∧ R64 x.f0 ∧ M64 x.f1 := by
  obtain ⟨y0, y1, n, _, hl, h0, h1⟩ := trod_struct2 Try.underlying41 h
  have e1 : Try.prog.cellsOf 2 = 1 := by kernel_rfl
  have e0 : Try.prog.cellsOf 39 = 1 := by kernel_rfl
  have e2 : Try.prog.cellsOf 41 = 2 := by kernel_rfl
  simp only [e0, e1] at h0 h1
  rw [e2] at hl
  match cs, hl with
  | [c0, c1], _ =>
    obtain ⟨a, ha, _, hw⟩ := DataW.trod_int Try.underlying2 h0
    simp at ha
    subst ha
    have h2 : DataW.trod enc Try.prog W 0 spare held n 39 [c1] = some y1 := h1
    have hs : ∃ A n c, c1 = .slice A n c := by
      rcases Go.Deep.open_slice Try.underlying39 h2 with ⟨hcs, _⟩ | ⟨a, len, cap, m, n', D, Pl, hcs, _⟩
      · simp at hcs; exact ⟨_, _, _, hcs⟩
      · simp at hcs; exact ⟨_, _, _, hcs⟩
    obtain ⟨A, len, c, rfl⟩ := hs
    obtain ⟨l, rfl, hc, hm, hC, hQ⟩ := open_row k44 _ Try.underlying39 (by kernel_rfl) (fun _ cs y h => open_mono cs y h) h2
    exact ⟨⟨a, l⟩, A, c, rfl, hc, hm, hC, wf64 hw, hQ⟩
def Q41 (x : S41) : Prop := R64 x.f0 ∧ M64 x.f1 ∧ x.f1.length ≤ maxLen
theorem open_linK {H : Type} {enc : TypeId × Value → H} {W : World} {held : Bool} {spare : Nat → Bool} {m : Nat} (cs : List Value) (y : DataW H × List MemPlace) (h : DataW.trod enc Try.prog W 0 spare held m 41 cs = some y) :
    ∃ x : S41, k41.K W x cs ∧ Q41 x := by
  obtain ⟨x, A, c, rfl, hc, hm, hC, hr, hM⟩ := open_lin cs y h
  exact ⟨x, k41_mk W x hc hC, hr, hM, Nat.le_trans hc hm⟩
end Go.Proofs.Ytjinmlpekecmbaa.Pure
