/- Whoever holds lies within the bounds that are told, and where none are told nothing is handed out: for every inequalities, number of variables and values (asked of at most 20 inequalities, of 20 monomials each, 100 values). -/
import Derived.Test.YtkfbfgkdabljiaaPBoxWithinx
import Derived.Laws.BitsAllLaws
import Derived.Deep.Slices
import Derived.ChangeSame
import Derived.KernelRfl
import Derived.OpenShut
namespace Go.Proofs.Ytkfbfgkdabljiaa.Pure
open Go.RowKit Go.Proofs.Ytkfbfgkdabljiaa.PBoxWithin Go.Proofs.YtkfbfgkdabljiaaW.PrintWords Go.Proofs.YtkfbfgkdabljiaaW.PrintLast
set_option linter.unusedVariables false
set_option linter.unusedSimpArgs false
/-- A number, if it fits. -/
def fitI (n : Int) : Int × Bool := if -9223372036854775808 ≤ n ∧ n ≤ 9223372036854775807 then (n, true) else (0, false)
theorem abs_mul_lt {a b : Int} (h1 : -9223372036854775808 ≤ a) (h2 : a ≤ 9223372036854775807) (h3 : -9223372036854775808 ≤ b) (h4 : b ≤ 9223372036854775807) : a.natAbs * b.natAbs ≤ 85070591730234615865843651857942052864 :=
  Nat.le_trans (Nat.mul_le_mul (show a.natAbs ≤ 9223372036854775808 by omega) (show b.natAbs ≤ 9223372036854775808 by omega)) (by decide)
theorem odd_coprime_two {a : Nat} (h : a % 2 = 1) : Nat.Coprime a 2 := by
  have h1 : Nat.gcd a 2 ∣ 2 := Nat.gcd_dvd_right a 2
  have h2 : Nat.gcd a 2 ∣ a := Nat.gcd_dvd_left a 2
  have h3 : Nat.gcd a 2 ≤ 2 := Nat.le_of_dvd (by omega) h1
  have h4 : Nat.gcd a 2 ≠ 0 := fun e => by rw [e] at h1; simp at h1
  have h5 : Nat.gcd a 2 ≠ 2 := fun e => by rw [e] at h2; omega
  show Nat.gcd a 2 = 1
  omega
theorem gcd_odd_pow {a : Nat} (h : a % 2 = 1) (t b : Nat) : Nat.gcd a (2 ^ t * b) = Nat.gcd a b :=
  Nat.Coprime.gcd_mul_left_cancel_right b ((odd_coprime_two h).pow_right t).symm
theorem gcd_two_parts {oa ob ta tb : Nat} (ha : oa % 2 = 1) (hb : ob % 2 = 1) :
    Nat.gcd (2 ^ ta * oa) (2 ^ tb * ob) = Nat.gcd oa (2 ^ tb * ob) * 2 ^ min ta tb := by
  rw [gcd_odd_pow ha]
  rcases Nat.le_total ta tb with h | h
  · obtain ⟨d, rfl⟩ := Nat.exists_eq_add_of_le h
    rw [Nat.min_eq_left h, Nat.pow_add, Nat.mul_assoc, Nat.gcd_mul_left, gcd_odd_pow ha, Nat.mul_comm]
  · obtain ⟨d, rfl⟩ := Nat.exists_eq_add_of_le h
    rw [Nat.min_eq_right h, Nat.pow_add, Nat.mul_assoc, Nat.gcd_mul_left, Nat.gcd_comm, gcd_odd_pow hb, Nat.mul_comm, Nat.gcd_comm]
-- one round of the halving: x odd, y = 2^t * z, z odd
theorem gcd_round {x z t : Nat} (hx : x % 2 = 1) : Nat.gcd x (2 ^ t * z) = if z < x then Nat.gcd z (x - z) else Nat.gcd x (z - x) := by
  rw [gcd_odd_pow hx]
  split
  · rename_i h; rw [Nat.gcd_comm, Nat.gcd_sub_self_right (by omega)]
  · rename_i h; rw [Nat.gcd_sub_self_right (by omega)]
theorem u64w (n : Int) : IntKind.u64.wrap n = n % 18446744073709551616 := by
  simp [IntKind.wrap, IntKind.bits, IntKind.signed]
theorem wf64 {a : Int} (h : (Lit.int .i64 a).wf = true) : -9223372036854775808 ≤ a ∧ a ≤ 9223372036854775807 := by
  simpa [Lit.wf, IntKind.min, IntKind.max, IntKind.signed, IntKind.bits] using h
theorem w64 {n : Int} (h1 : -9223372036854775808 ≤ n) (h2 : n ≤ 9223372036854775807) : wrap64 n = n := by
  unfold wrap64; omega
theorem size_eq {a : Int} (h1 : -9223372036854775808 ≤ a) (h2 : a ≤ 9223372036854775807) : num_size.f a = some (a.natAbs : Int) := by
  unfold num_size.f
  simp only [u64w]
  split <;> congr 1 <;> omega
theorem shr_nat (n i : Nat) (hi : i ≤ 64) : shr .u64 (n:Int) (i:Int) = ((n / 2^i : Nat) : Int) := by
  unfold shr
  simp only [IntKind.bits, Int.toNat_natCast, Nat.min_eq_left hi]
  simp
theorem and_one (x : Nat) (h : x < 18446744073709551616) : Go.bits .and .u64 (x:Int) 1 = ((x % 2 : Nat) : Int) := by
  have := u64_and_nat x 1 h (by decide)
  simpa [Nat.and_one_is_mod] using this
theorem twos_l0 (n : Nat) (hn : 0 < n) (h : n < 18446744073709551616) : ∀ (d i : Nat), 64 - i = d → i < 64 → 2^i ∣ n →
    ∃ t : Nat, t < 64 ∧ 2^t ∣ n ∧ n / 2^t % 2 = 1 ∧ ∃ K, ∀ k, K ≤ k → num_twos.l0 k n i = some (t:Int) := by
  intro d
  induction d with
  | zero => intro i h1 h2; omega
  | succ d ih =>
    intro i h1 h2 h3
    have hlt : n / 2^i < 18446744073709551616 := Nat.lt_of_le_of_lt (Nat.div_le_self _ _) h
    by_cases e : n / 2^i % 2 = 1
    · refine ⟨i, h2, h3, e, 1, fun k hk => ?_⟩
      obtain ⟨m, rfl⟩ : ∃ m, k = m + 1 := ⟨k - 1, by omega⟩
      simp only [num_twos.l0]
      rw [if_pos (by omega), if_pos (by omega), shr_nat _ _ (by omega), and_one _ hlt, e]; rfl
    · obtain ⟨c, hc⟩ := h3
      have hp : 0 < 2^i := Nat.two_pow_pos i
      have hd : n / 2^i = c := by rw [hc]; exact Nat.mul_div_cancel_left _ hp
      obtain ⟨m, hm⟩ : ∃ m, c = 2 * m := ⟨c / 2, by omega⟩
      have hm0 : 0 < m := by
        rcases Nat.eq_zero_or_pos m with e | e
        · subst e; rw [hc, hm] at hn; simp at hn
        · exact e
      have hi : i + 1 < 64 := by
        rcases Nat.lt_or_ge (i+1) 64 with q | q
        · exact q
        · exfalso
          have : i = 63 := by omega
          subst this
          have : 2^63 * (2*1) ≤ n := by rw [hc, hm]; exact Nat.mul_le_mul_left _ (by omega)
          omega
      obtain ⟨t, a, b, c', ev⟩ := ih (i+1) (by omega) hi ⟨m, by rw [hc, hm, Nat.pow_succ, Nat.mul_assoc]⟩
      obtain ⟨K, ev⟩ := ev
      refine ⟨t, a, b, c', K + 1, fun k hk => ?_⟩
      obtain ⟨j, rfl⟩ : ∃ m, k = m + 1 := ⟨k - 1, by omega⟩
      simp only [num_twos.l0]
      rw [if_pos (by omega), if_pos (by omega), shr_nat _ _ (by omega), and_one _ hlt, if_neg (by omega), w64 (by omega) (by omega)]
      exact ev j (by omega)
theorem twos_ev (n : Nat) (hn : 0 < n) (h : n < 18446744073709551616) :
    ∃ t z : Nat, n = 2^t * z ∧ z % 2 = 1 ∧ t < 64 ∧ ∃ K, ∀ k, K ≤ k → num_twos.f k n = some (t:Int) := by
  obtain ⟨t, h1, h2, h3, h4⟩ := twos_l0 n hn h 64 0 rfl (by omega) (by simp)
  obtain ⟨z, hz⟩ := h2
  refine ⟨t, z, hz, ?_, h1, h4⟩
  rw [hz, Nat.mul_div_cancel_left _ (Nat.two_pow_pos t)] at h3; exact h3
theorem mul_pow_div (t z : Nat) : 2^t * z / 2^t = z := Nat.mul_div_cancel_left _ (Nat.two_pow_pos t)
theorem le_mul_pow (t z : Nat) : z ≤ 2^t * z := Nat.le_mul_of_pos_left _ (Nat.two_pow_pos t)
theorem common_l0 (both : Nat) : ∀ (s x y : Nat), x + y ≤ s → x % 2 = 1 → x < 18446744073709551616 → y < 18446744073709551616 →
    ∃ K, ∀ k, K ≤ k → num_common.l0 k x y both = some (shl .u64 (Nat.gcd x y) both) := by
  intro s
  induction s with
  | zero => intro x y h1 h2; omega
  | succ s ih =>
    intro x y h1 hx hx2 hy2
    by_cases hy : y = 0
    · subst hy
      refine ⟨1, fun k hk => ?_⟩
      obtain ⟨m, rfl⟩ : ∃ m, k = m + 1 := ⟨k - 1, by omega⟩
      simp only [num_common.l0]
      rw [if_pos (by omega), if_pos (by omega), Nat.gcd_zero_right]
    · obtain ⟨t, z, e, hz, ht, K, ev⟩ := twos_ev y (by omega) hy2
      have hs : shr .u64 (y:Int) (t:Int) = (z:Int) := by rw [shr_nat _ _ (by omega), e, mul_pow_div]
      have hzy : z ≤ y := by rw [e]; exact le_mul_pow t z
      have hg := gcd_round (x := x) (z := z) (t := t) hx
      rw [← e] at hg
      by_cases hlt : z < x
      · rw [if_pos hlt] at hg
        obtain ⟨K', ev'⟩ := ih z (x - z) (by omega) hz (by omega) (by omega)
        refine ⟨max K K' + 1, fun k hk => ?_⟩
        obtain ⟨m, rfl⟩ : ∃ m, k = m + 1 := ⟨k - 1, by omega⟩
        simp only [num_common.l0]
        rw [if_neg (by omega), ev m (by omega)]
        simp only [Option.bind_some]
        rw [if_pos (by omega), hs, if_pos (by omega), u64w, hg, show ((x:Int) - z) % 18446744073709551616 = ((x - z : Nat) : Int) by omega]
        exact ev' m (by omega)
      · rw [if_neg hlt] at hg
        obtain ⟨K', ev'⟩ := ih x (z - x) (by omega) hx (by omega) (by omega)
        refine ⟨max K K' + 1, fun k hk => ?_⟩
        obtain ⟨m, rfl⟩ : ∃ m, k = m + 1 := ⟨k - 1, by omega⟩
        simp only [num_common.l0]
        rw [if_neg (by omega), ev m (by omega)]
        simp only [Option.bind_some]
        rw [if_pos (by omega), hs, if_neg (by omega), u64w, hg, show ((z:Int) - x) % 18446744073709551616 = ((z - x : Nat) : Int) by omega]
        exact ev' m (by omega)
theorem or_zero_left (b : Nat) (h : b < 18446744073709551616) : Go.bits .or .u64 0 (b:Int) = (b:Int) := by
  have := u64_or_nat 0 b (by decide) h
  simpa using this
theorem or_zero_right (b : Nat) (h : b < 18446744073709551616) : Go.bits .or .u64 (b:Int) 0 = (b:Int) := by
  have := u64_or_nat b 0 h (by decide)
  simpa using this
theorem common_ev (a b : Nat) (ha : a < 18446744073709551616) (hb : b < 18446744073709551616) : ∃ K, ∀ k, K ≤ k → num_common.f k a b = some (Nat.gcd a b : Int) := by
  by_cases h0 : a = 0
  · subst h0
    refine ⟨1, fun k hk => ?_⟩
    obtain ⟨m, rfl⟩ : ∃ m, k = m + 1 := ⟨k - 1, by omega⟩
    unfold num_common.f
    simp [num_common.j0, or_zero_left b hb]
  by_cases h1 : b = 0
  · subst h1
    refine ⟨1, fun k hk => ?_⟩
    obtain ⟨m, rfl⟩ : ∃ m, k = m + 1 := ⟨k - 1, by omega⟩
    unfold num_common.f
    rw [if_neg (by omega)]
    simp [num_common.j0, or_zero_right a ha]
  obtain ⟨ta, oa, ea, hoa, hta, Ka, eva⟩ := twos_ev a (by omega) ha
  obtain ⟨tb, ob, eb, hob, htb, Kb, evb⟩ := twos_ev b (by omega) hb
  have hs : shr .u64 (a:Int) (ta:Int) = (oa:Int) := by rw [shr_nat _ _ (by omega), ea, mul_pow_div]
  have hle : oa ≤ a := by rw [ea]; exact le_mul_pow ta oa
  obtain ⟨K, ev⟩ := common_l0 (min ta tb) _ oa b (Nat.le_refl _) hoa (by omega) hb
  refine ⟨max (max Ka Kb) K + 1, fun k hk => ?_⟩
  obtain ⟨m, rfl⟩ : ∃ m, k = m + 1 := ⟨k - 1, by omega⟩
  unfold num_common.f
  rw [if_neg (by omega), show ((b:Int) == 0) = false from beq_eq_false_iff_ne.mpr (by omega)]
  simp only [num_common.j0]
  rw [if_neg (by simp), eva m (by omega)]
  simp only [Option.bind_some]
  rw [evb m (by omega)]
  simp only [Option.bind_some]
  rw [if_pos (by omega), hs, show mn (ta:Int) (tb:Int) = ((min ta tb : Nat) : Int) by unfold mn; split <;> omega, ev m (by omega)]
  congr 1
  unfold shl
  simp only [IntKind.bits, Int.toNat_natCast]
  rw [Nat.min_eq_left (show min ta tb ≤ 64 by omega), u64w]
  have hg := gcd_two_parts (ta := ta) (tb := tb) hoa hob
  rw [← ea, ← eb] at hg
  have hl : Nat.gcd a b ≤ a := Nat.gcd_le_left b (by omega)
  have : ((Nat.gcd oa b : Nat) : Int) * 2 ^ min ta tb = ((Nat.gcd a b : Nat) : Int) := by rw [hg]; simp
  rw [this]
  omega
theorem signed_ev (g : Nat) (h : g < 18446744073709551616) : num_signed.f g false = some (if g ≤ 9223372036854775807 then ((g:Int), true) else (0, false)) := by
  unfold num_signed.f num_told.f
  simp only [Bool.false_eq_true, if_false]
  by_cases e : g ≤ 9223372036854775807
  · rw [decide_eq_true (by omega), if_pos rfl, if_pos e, w64 (by omega) (by omega)]; rfl
  · rw [decide_eq_false (by omega), if_neg (by simp), if_neg e]; rfl
/-- The gcd of the sizes. -/
def gcdL (l : List Int) (g : Nat) : Nat := l.foldl (fun g n => Nat.gcd g n.natAbs) g
def fit (g : Nat) : Int × Bool := if g ≤ 9223372036854775807 then ((g:Int), true) else (0, false)
def I64 (l : List Int) : Prop := ∀ x ∈ l, -9223372036854775808 ≤ x ∧ x ≤ 9223372036854775807
theorem gcd_lt {a b : Nat} (ha : a < 18446744073709551616) (hb : b ≤ 9223372036854775808) : Nat.gcd a b < 18446744073709551616 := by
  rcases Nat.eq_zero_or_pos a with e | e
  · subst e; rw [Nat.gcd_zero_left]; omega
  · have := Nat.gcd_le_left b e; omega
theorem rd_at (l : List Int) (i : Nat) (h : i < l.length) : rd l (i:Int) = l[i] := by
  simp [rd, h]
theorem Gcd_l0 (l : List Int) (hl : l.length ≤ 9223372036854775806) (hx : I64 l) : ∀ (d i : Nat) (g : Nat), l.length - i = d → i ≤ l.length → g < 18446744073709551616 →
    ∃ K, ∀ k, K ≤ k → num_Gcd.l0 k g l (l.length:Int) i = some (fit (gcdL (l.drop i) g)) := by
  intro d
  induction d with
  | zero =>
    intro i g h1 h2 hg
    refine ⟨1, fun k hk => ?_⟩
    obtain ⟨m, rfl⟩ : ∃ m, k = m + 1 := ⟨k - 1, by omega⟩
    simp only [num_Gcd.l0]
    rw [if_neg (by omega), signed_ev g hg]
    rw [List.drop_eq_nil_of_le (by omega)]; rfl
  | succ d ih =>
    intro i g h1 h2 hg
    have hi : i < l.length := by omega
    have hxi := hx l[i] (List.getElem_mem hi)
    obtain ⟨K, ev⟩ := common_ev g l[i].natAbs hg (by omega)
    obtain ⟨K', ev'⟩ := ih (i+1) (Nat.gcd g l[i].natAbs) (by omega) (by omega) (gcd_lt hg (by omega))
    refine ⟨max K K' + 1, fun k hk => ?_⟩
    obtain ⟨m, rfl⟩ : ∃ m, k = m + 1 := ⟨k - 1, by omega⟩
    simp only [num_Gcd.l0]
    rw [if_pos (by omega), if_pos (by omega), if_pos (by omega), rd_at l i hi, size_eq hxi.1 hxi.2]
    simp only [Option.bind_some]
    rw [ev m (by omega)]
    simp only [Option.bind_some]
    rw [w64 (by omega) (by omega), List.drop_eq_getElem_cons hi]
    exact ev' m (by omega)
theorem Gcd_ev (l : List Int) (hl : l.length ≤ 9223372036854775806) (hx : I64 l) : ∃ K, ∀ k, K ≤ k → num_Gcd.f k l = some (fit (gcdL l 0)) := by
  have := Gcd_l0 l hl hx _ 0 0 rfl (by omega) (by omega)
  simp at this
  exact this
theorem gcdL_dvd (l : List Int) : ∀ g : Nat, gcdL l g ∣ g ∧ ∀ x ∈ l, gcdL l g ∣ x.natAbs := by
  induction l with
  | nil => intro g; exact ⟨Nat.dvd_refl _, by simp⟩
  | cons a l ih =>
    intro g
    obtain ⟨h1, h2⟩ := ih (Nat.gcd g a.natAbs)
    refine ⟨Nat.dvd_trans h1 (Nat.gcd_dvd_left _ _), fun x hx => ?_⟩
    rcases List.mem_cons.1 hx with e | e
    · subst e; exact Nat.dvd_trans h1 (Nat.gcd_dvd_right _ _)
    · exact h2 x e
/-- At all great fuels the same answer. -/
def Ev {α : Type} (f : Nat → Option α) (v : α) : Prop := ∃ K, ∀ k, K ≤ k → f k = some v
theorem Ev.now {α : Type} {f : Nat → Option α} {v : α} (h : ∀ k, f k = some v) : Ev f v := ⟨0, fun k _ => h k⟩
theorem Ev.succ {α : Type} {f : Nat → Option α} {v : α} (h : Ev (fun k => f (k + 1)) v) : Ev f v := by
  obtain ⟨K, h⟩ := h
  refine ⟨K + 1, fun k hk => ?_⟩
  obtain ⟨m, rfl⟩ : ∃ m, k = m + 1 := ⟨k - 1, by omega⟩
  exact h m (by omega)
theorem Ev.bind {α β : Type} {f : Nat → Option α} {g : Nat → α → Option β} {v : α} {u : β} (h : Ev f v) (h2 : Ev (fun k => g k v) u) : Ev (fun k => (f k).bind (g k)) u := by
  obtain ⟨K, h⟩ := h
  obtain ⟨K2, h2⟩ := h2
  refine ⟨max K K2, fun k hk => ?_⟩
  show (f k).bind (g k) = some u
  rw [h k (by omega)]
  exact h2 k (by omega)
theorem Ev.of {α : Type} {f g : Nat → Option α} {v : α} (h : Ev f v) (e : ∀ k, g k = f k) : Ev g v := by
  obtain ⟨K, h⟩ := h
  exact ⟨K, fun k hk => (e k).trans (h k hk)⟩
theorem Ev.at_ {α : Type} {f : Nat → Option α} {v : α} (h : Ev f v) : ∃ k, f k = some v := by
  obtain ⟨K, h⟩ := h
  exact ⟨K, h K (Nat.le_refl _)⟩
theorem Ev.mono {α : Type} {f : Nat → Option α} {v : α} (K : Nat) (hm : ∀ k, LeO (f k) (f (k + 1))) (h : f K = some v) : Ev f v := by
  refine ⟨K, fun k hk => ?_⟩
  obtain ⟨d, rfl⟩ := Nat.exists_eq_add_of_le hk
  induction d with
  | zero => exact h
  | succ d ih => exact hm (K + d) v (ih (by omega))
theorem Ev.val {α : Type} {f : Nat → Option α} {v u : α} (h : Ev f v) (e : v = u) : Ev f u := e ▸ h
theorem Ev.pos {α : Type} {c : Prop} [Decidable c] {f g : Nat → Option α} {v : α} (h : c) (hf : Ev f v) : Ev (fun k => if c then f k else g k) v := hf.of fun k => if_pos h
theorem Ev.neg {α : Type} {c : Prop} [Decidable c] {f g : Nat → Option α} {v : α} (h : ¬ c) (hf : Ev g v) : Ev (fun k => if c then f k else g k) v := hf.of fun k => if_neg h
theorem rdM_at (l : List S68) (i : Nat) (h : i < l.length) : rd_T68 l (i:Int) = l[i] := by simp [rd_T68, h]
theorem rdQ_at (l : List S62) (i : Nat) (h : i < l.length) : rd_T62 l (i:Int) = l[i] := by simp [rd_T62, h]
theorem rdI_at (l : List S70) (i : Nat) (h : i < l.length) : rd_T70 l (i:Int) = l[i] := by simp [rd_T70, h]
/-- Are the variables in order, of the 64, and no factor zero? -/
def rightL : Int → List S68 → Bool
  | _, [] => true
  | last, m :: l => decide (last < m.f0) && decide (m.f0 < 64) && decide (m.f1 ≠ 0) && rightL m.f0 l
theorem Right_l0 (l : List S68) (hl : l.length ≤ 9223372036854775807) : ∀ (d i : Nat) (last : Int), l.length - i = d → i ≤ l.length →
    Ev (fun k => lin_Right.l0 k last l (l.length:Int) i) (if rightL last (l.drop i) = true then 0 else 1) := by
  intro d
  induction d with
  | zero =>
    intro i last h1 h2
    refine Ev.succ (Ev.now fun k => ?_)
    simp only [lin_Right.l0]
    rw [if_neg (by omega), List.drop_eq_nil_of_le (by omega)]; rfl
  | succ d ih =>
    intro i last h1 h2
    have hi : i < l.length := by omega
    rw [List.drop_eq_getElem_cons hi]
    by_cases e : last < l[i].f0 ∧ l[i].f0 < 64 ∧ l[i].f1 ≠ 0
    · obtain ⟨e1, e2, e3⟩ := e
      refine Ev.succ (Ev.of (ih (i+1) l[i].f0 (by omega) (by omega)) fun k => ?_) |>.val ?_
      · simp only [lin_Right.l0]
        rw [if_pos (by omega), if_pos (by omega), if_pos (by omega), rdM_at l i hi, if_neg (by omega), if_neg (by omega), if_neg e3, w64 (by omega) (by omega)]; rfl
      · simp only [rightL, decide_eq_true e1, decide_eq_true e2, decide_eq_true e3, Bool.true_and]
    · refine Ev.succ (Ev.now fun k => ?_)
      have hr : rightL last (l[i] :: l.drop (i+1)) = false := by
        simp only [rightL, Bool.and_eq_false_iff, decide_eq_false_iff_not]
        omega
      rw [hr]
      simp only [lin_Right.l0]
      rw [if_pos (by omega), if_pos (by omega), if_pos (by omega), rdM_at l i hi]
      by_cases e1 : l[i].f0 ≤ last
      · rw [if_pos e1]; rfl
      by_cases e2 : l[i].f0 ≥ 64
      · rw [if_neg e1, if_pos e2]; rfl
      · rw [if_neg e1, if_neg e2, if_pos (by omega)]; rfl
theorem Right_ev (K : Int) (l : List S68) (hl : l.length ≤ 9223372036854775807) : Ev (fun k => lin_Right.f k K l) (if rightL (-1) l = true then 0 else 1) := by
  have := Right_l0 l hl _ 0 (-1) rfl (by omega)
  exact this
theorem iRight_ev (K : Int) (l : List S68) (b : Bool) (hl : l.length ≤ 9223372036854775807) : Ev (fun k => ineq_Right.f k K l b) (if rightL (-1) l = true then 0 else 1) :=
  Ev.bind (Right_ev K l hl) (Ev.now fun _ => rfl)
theorem right1_ev (K : Int) (l : List S68) (hl : l.length ≤ 9223372036854775807) : Ev (fun k => lin_right_1.f k K l) (!rightL (-1) l) :=
  Ev.bind (Right_ev K l hl) (Ev.now fun _ => by cases rightL (-1) l <;> rfl)
theorem idx_l0 (l : List S62) (hl : l.length ≤ 9223372036854775807) (hm : ∀ q ∈ l, q.f1.length ≤ 9223372036854775807) : ∀ (d i : Nat), l.length - i = d → i ≤ l.length →
    ∃ v, Ev (fun k => api_Lin_117.l0 k l (l.length:Int) i) v ∧ decide (v ≥ 0) = !((l.drop i).all fun q => rightL (-1) q.f1) := by
  intro d
  induction d with
  | zero =>
    intro i h1 h2
    refine ⟨-1, Ev.succ (Ev.now fun k => ?_), ?_⟩
    · simp only [api_Lin_117.l0]
      rw [if_neg (by omega)]
    · rw [List.drop_eq_nil_of_le (by omega)]; rfl
  | succ d ih =>
    intro i h1 h2
    have hi : i < l.length := by omega
    rw [List.drop_eq_getElem_cons hi]
    have hq := right1_ev l[i].f0 l[i].f1 (hm _ (List.getElem_mem hi))
    obtain ⟨v, ev, hv⟩ := ih (i+1) (by omega) (by omega)
    have hs : ∀ k, api_Lin_117.l0 (k+1) l (l.length:Int) i = (lin_right_1.f k l[i].f0 l[i].f1).bind fun t => if t = true then some (i:Int) else api_Lin_117.l0 k l (l.length:Int) ((i+1 : Nat) : Int) := by
      intro k
      simp only [api_Lin_117.l0]
      rw [if_pos (by omega), if_pos (by omega), if_pos (by omega), rdQ_at l i hi, w64 (by omega) (by omega)]; rfl
    by_cases e : rightL (-1) l[i].f1 = true
    · rw [e] at hq
      refine ⟨v, Ev.succ (Ev.of (Ev.bind hq ?_) hs), ?_⟩
      · exact Ev.of ev fun k => by simp
      · rw [hv, List.all_cons, e, Bool.true_and]
    · have e' : rightL (-1) l[i].f1 = false := by simpa using e
      rw [e'] at hq
      refine ⟨i, Ev.succ (Ev.of (Ev.bind hq ?_) hs), ?_⟩
      · exact Ev.now fun k => by simp
      · rw [List.all_cons, e']; simp
theorem linright_ev (l : List S62) (hl : l.length ≤ 9223372036854775807) (hm : ∀ q ∈ l, q.f1.length ≤ 9223372036854775807) : Ev (fun k => lin_right.f k l) (l.all fun q => rightL (-1) q.f1) := by
  obtain ⟨v, ev, hv⟩ := idx_l0 l hl hm _ 0 rfl (by omega)
  rw [List.drop_zero] at hv
  refine Ev.bind (v := decide (v ≥ 0)) (Ev.bind ev (Ev.now fun _ => rfl)) (Ev.now fun _ => ?_)
  rw [hv]; simp
theorem rightL_mem : ∀ (l : List S68) (last : Int), rightL last l = true → ∀ m ∈ l, last < m.f0 ∧ m.f0 < 64 ∧ m.f1 ≠ 0 := by
  intro l
  induction l with
  | nil => intro last _ m hm; cases hm
  | cons a l ih =>
    intro last h m hm
    simp only [rightL, Bool.and_eq_true, decide_eq_true_eq] at h
    rcases List.mem_cons.1 hm with e | e
    · subst e; exact ⟨h.1.1.1, h.1.1.2, h.1.2⟩
    · have := ih a.f0 h.2 m e; omega
theorem rightL_len : ∀ (l : List S68) (last : Int), last ≤ 63 → rightL last l = true → (l.length : Int) ≤ 63 - last := by
  intro l
  induction l with
  | nil => intro last h _; simp; omega
  | cons a l ih =>
    intro last h0 h
    simp only [rightL, Bool.and_eq_true, decide_eq_true_eq] at h
    have := ih a.f0 (by omega) h.2
    simp only [List.length_cons]; omega
/-- The monomials' ranges. -/
def M64 (l : List S68) : Prop := ∀ m ∈ l, (-9223372036854775808 ≤ m.f0 ∧ m.f0 ≤ 9223372036854775807) ∧ -9223372036854775808 ≤ m.f1 ∧ m.f1 ≤ 9223372036854775807
def R64 (n : Int) : Prop := -9223372036854775808 ≤ n ∧ n ≤ 9223372036854775807
theorem in64_of {n : Int} (h : R64 n) : in64 n = true := by
  simp only [in64, Bool.and_eq_true, decide_eq_true_eq]; exact h
theorem rd_R64 {x : List Int} (hx : I64 x) (i : Int) : R64 (rd x i) := by
  unfold rd
  by_cases h : i.toNat < x.length
  · rw [List.getD_eq_getElem?_getD, List.getElem?_eq_getElem h]; exact hx _ (List.getElem_mem h)
  · rw [List.getD_eq_getElem?_getD, List.getElem?_eq_none (by omega)]; exact ⟨by simp, by simp⟩
theorem mul_R64 {a b : Int} (ha : R64 a) (hb : R64 b) : -85070591730234615865843651857942052864 ≤ a * b ∧ a * b ≤ 85070591730234615865843651857942052864 := by
  have h := abs_mul_lt ha.1 ha.2 hb.1 hb.2
  rw [← Int.natAbs_mul] at h
  omega
theorem wrap192_id {s : Int} (h1 : -3138550867693340381917894711603833208051177722232017256448 ≤ s) (h2 : s < 3138550867693340381917894711603833208051177722232017256448) : wrap192 s = s := by
  unfold wrap192; omega
theorem Mono_eq (l : List S68) (h : l.length < 8796093022208) : api_Mono.f l = some l := by
  unfold api_Mono.f; rw [if_pos h]
/-- The constant divided, rounded up, and a monomial divided. -/
def ceilD (K d : Int) : Int := -((-K) / d)
def divM (d : Int) (m : S68) : S68 := ⟨m.f0, Int.tdiv m.f1 d⟩
theorem tdiv_R64 {a d : Int} (ha : R64 a) (hd : 1 ≤ d) : R64 (Int.tdiv a d) ∧ (0 < d → (0 ≤ a → Int.tdiv a d = a / d) ∧ (a < 0 → Int.tdiv a d = -((-a) / d))) := by
  have h : 0 < d → (0 ≤ a → Int.tdiv a d = a / d) ∧ (a < 0 → Int.tdiv a d = -((-a) / d)) := by
    intro _
    constructor
    · intro h0; exact Int.tdiv_eq_ediv_of_nonneg h0
    · intro h0
      have h1 : Int.tdiv (-a) d = (-a) / d := Int.tdiv_eq_ediv_of_nonneg (by omega)
      rw [Int.neg_tdiv] at h1; omega
  refine ⟨?_, h⟩
  obtain ⟨h1, h2⟩ := h (by omega)
  have hA := ha.1
  have hB := ha.2
  by_cases e : 0 ≤ a
  · rw [h1 e]
    have p1 : 0 ≤ a / d := Int.ediv_nonneg e (by omega)
    have p2 : a / d ≤ a := Int.ediv_le_self d e
    exact ⟨by omega, by omega⟩
  · rw [h2 (by omega)]
    have p1 : 0 ≤ (-a) / d := Int.ediv_nonneg (by omega) (by omega)
    have p2 : (-a) / d ≤ -a := Int.ediv_le_self d (by omega)
    exact ⟨by omega, by omega⟩
theorem ceil_law {K d : Int} (hd : 1 ≤ d) : d * (ceilD K d - 1) < K ∧ K ≤ d * ceilD K d := by
  unfold ceilD
  have h1 := Int.ediv_mul_le (-K) (show d ≠ 0 by omega)
  have h2 := Int.lt_ediv_add_one_mul_self (-K) (show 0 < d by omega)
  rw [Int.mul_comm] at h1 h2
  generalize (-K) / d = q at *
  rw [Int.mul_add] at h2
  rw [Int.mul_sub, Int.mul_neg]
  omega
theorem ceilD_uniq {K d c : Int} (hd : 1 ≤ d) (h1 : d * (c - 1) < K) (h2 : K ≤ d * c) : c = ceilD K d := by
  obtain ⟨p1, p2⟩ := ceil_law (K := K) hd
  have a1 : d * (c - 1) < d * ceilD K d := by omega
  have a2 : d * (ceilD K d - 1) < d * c := by omega
  have b1 := Int.lt_of_mul_lt_mul_left a1 (by omega)
  have b2 := Int.lt_of_mul_lt_mul_left a2 (by omega)
  omega
theorem Ceil_eq {K d : Int} (hK : R64 K) (hd : 1 ≤ d) (hd2 : d ≤ 9223372036854775807) : num_Ceil.f K d = some (ceilD K d, true) := by
  have hov : num_over.f K d = some false := by
    unfold num_over.f
    rw [if_neg (by omega)]
    split
    · rw [show (d == -1) = false from beq_eq_false_iff_ne.2 (by omega)]
    · rfl
  unfold num_Ceil.f
  rw [hov]
  simp only [Option.bind_some]
  rw [if_neg (by simp), if_neg (by omega)]
  have hT := (tdiv_R64 hK hd).1
  have he : K = d * Int.tdiv K d + Int.tmod K d := by rw [Int.add_comm]; exact (Int.tmod_add_mul_tdiv K d).symm
  have hW : wrap64 (Int.tdiv K d) = Int.tdiv K d := w64 hT.1 hT.2
  rw [hW]
  by_cases e : Int.tmod K d = 0
  · rw [if_pos e]
    congr 2
    refine ceilD_uniq hd ?_ ?_ <;> (try rw [Int.mul_sub]) <;> omega
  · rw [if_neg e]
    by_cases n : K < 0
    · have hm : Int.tmod K d ≤ 0 := by
        have := Int.tmod_nonneg (a := -K) d (by omega)
        rw [Int.neg_tmod] at this; omega
      have hm2 : -d < Int.tmod K d := by
        have := Int.tmod_lt_of_pos (-K) (show 0 < d by omega)
        rw [Int.neg_tmod] at this; omega
      rw [decide_eq_true n, decide_eq_false (by omega), if_neg (by decide)]
      congr 2
      refine ceilD_uniq hd ?_ ?_ <;> (try rw [Int.mul_sub]) <;> omega
    · have hm : 0 ≤ Int.tmod K d := Int.tmod_nonneg d (by omega)
      have hm2 : Int.tmod K d < d := Int.tmod_lt_of_pos K (by omega)
      rw [decide_eq_false n, decide_eq_false (show ¬ d < 0 by omega), if_pos (by decide)]
      have hd1 : d ≠ 1 := by intro h; subst h; simp at e
      have hq : Int.tdiv K d ≤ K / 2 := by
        rw [(tdiv_R64 hK hd).2 (by omega) |>.1 (by omega)]
        have : 2 * (K / d) ≤ d * (K / d) := Int.mul_le_mul_of_nonneg_right (by omega) (Int.ediv_nonneg (by omega) (by omega))
        have := Int.mul_ediv_self_le (x := K) (k := d) (by omega)
        omega
      have hK1 := hK.2
      have hT1 := hT.1
      rw [w64 (by omega) (by omega)]
      congr 2
      refine ceilD_uniq hd ?_ ?_ <;> (try rw [Int.mul_sub]) <;> (try rw [Int.mul_add]) <;> omega
theorem divided_l0 (d c : Int) (hd : 1 ≤ d) (l : List S68) (hl : M64 l) (hlen : l.length ≤ 9223372036854775807) : ∀ (n i : Nat) (y : List S68), l.length - i = n → i ≤ l.length → y = (l.take i).map (divM d) ++ l.drop i →
    Ev (fun k => ineq_divided.l0 k d (l.length:Int) i c y) (c, l.map (divM d)) := by
  intro n
  induction n with
  | zero =>
    intro i y h1 h2 hy
    refine Ev.succ (Ev.now fun k => ?_)
    simp only [ineq_divided.l0]
    rw [if_neg (by omega), hy, List.drop_eq_nil_of_le (by omega), List.take_of_length_le (by omega), List.append_nil]
  | succ n ih =>
    intro i y h1 h2 hy
    have hi : i < l.length := by omega
    have hyl : y.length = l.length := by rw [hy]; simp; omega
    have hyi : y[i]'(by omega) = l[i] := by
      subst hy
      rw [List.getElem_append_right (by simp; omega)]
      simp [Nat.min_eq_left (Nat.le_of_lt hi)]
    refine Ev.succ (Ev.of (ih (i+1) (y.set i (divM d l[i])) (by omega) (by omega) ?_) fun k => ?_)
    · rw [hy, List.set_append_right _ _ (by simp; omega)]
      simp only [List.length_map, List.length_take, Nat.min_eq_left (Nat.le_of_lt hi), Nat.sub_self]
      rw [List.drop_eq_getElem_cons hi, List.set_cons_zero, List.take_succ_eq_append_getElem hi, List.map_append, List.append_assoc]
      rfl
    · have hT := (tdiv_R64 (hl _ (List.getElem_mem hi)).2 hd).1
      simp only [ineq_divided.l0]
      rw [if_pos (by omega), if_pos (by omega), if_pos (by omega), if_neg (by omega), rdM_at y i (by omega), hyi, w64 hT.1 hT.2, w64 (by omega) (by omega)]; rfl
theorem divided_ev {K d : Int} (hK : R64 K) (hd : 1 ≤ d) (hd2 : d ≤ 9223372036854775807) (l : List S68) (hl : M64 l) (hlen : l.length < 8796093022208) :
    Ev (fun k => ineq_divided.f k K l d) (ceilD K d, l.map (divM d)) := by
  refine Ev.of (divided_l0 d (ceilD K d) hd l hl (by omega) _ 0 l rfl (by omega) (by simp)) fun k => ?_
  unfold ineq_divided.f
  rw [Mono_eq l hlen, Ceil_eq hK hd hd2]; rfl
theorem evalFold_le (x : List Int) (hx : I64 x) : ∀ (l : List S68) (s : Int), M64 l →
    s - l.length * 85070591730234615865843651857942052864 ≤ l.foldl (evalStep x) s ∧ l.foldl (evalStep x) s ≤ s + l.length * 85070591730234615865843651857942052864 := by
  intro l
  induction l with
  | nil => intro s _; simp
  | cons a l ih =>
    intro s h
    have h1 := ih (evalStep x s a) (fun m hm => h m (List.mem_cons_of_mem _ hm))
    have h2 := mul_R64 (h a (List.mem_cons_self ..)).2 (rd_R64 hx a.f0)
    have h3 : s - 85070591730234615865843651857942052864 ≤ evalStep x s a ∧ evalStep x s a ≤ s + 85070591730234615865843651857942052864 := by
      unfold evalStep; split <;> omega
    simp only [List.foldl_cons, List.length_cons]
    omega
theorem evalSum_le (K : Int) (l : List S68) (x : List Int) (hK : R64 K) (hl : M64 l) (hx : I64 x) (hr : rightL (-1) l = true) :
    -3138550867693340381917894711603833208051177722232017256448 ≤ evalSum K l x ∧ evalSum K l x < 3138550867693340381917894711603833208051177722232017256448 := by
  have h := evalFold_le x hx l (0 + K * 1) hl
  have h2 := rightL_len l (-1) (by omega) hr
  unfold evalSum
  have := hK.1
  have := hK.2
  omega
theorem Eval_ev (K : Int) (l : List S68) (x : List Int) (hK : R64 K) (hl : M64 l) (hx : I64 x) (hlen : l.length ≤ 9223372036854775807) :
    Ev (fun k => lin_Eval.f k K l x) (if rightL (-1) l = true then (if (fit64 (evalSum K l x)).2 = true then ((fit64 (evalSum K l x)).1, 0) else (0, 5)) else (0, 1)) := by
  have h := linright_ev [⟨K, l⟩] (by simp) (by intro q hq; simp at hq; subst hq; exact hlen)
  refine Ev.bind h (Ev.now fun _ => ?_)
  simp only [List.all_cons, List.all_nil, Bool.and_true]
  by_cases e : rightL (-1) l = true
  · rw [if_pos e, if_pos e]
    have hb := evalSum_le K l x hK hl hx e
    have hok : (in64 K && l.all (evalOk x)) = true := by
      rw [in64_of hK, Bool.true_and, List.all_eq_true]
      intro m hm
      have := (rightL_mem l (-1) e m hm).1
      simp only [evalOk, Bool.and_eq_true, Bool.or_eq_true, decide_eq_true_eq]
      exact ⟨by omega, .inr ⟨in64_of (hl m hm).2, in64_of (rd_R64 hx _)⟩⟩
    rw [if_pos hok]
    unfold fit192
    rw [wrap192_id hb.1 hb.2]
  · rw [if_neg e, if_neg e]
/-- The common divisor of the factors, if it fits, else none. -/
def gL (l : List S68) : Int := (fit (gcdL (l.map (·.f1)) 0)).1
theorem gcdF_l0 (l : List S68) (hl : M64 l) (hlen : l.length ≤ 1000000) : ∀ (d i : Nat) (acc : List Int), l.length - i = d → i ≤ l.length → acc = (l.take i).map (·.f1) →
    Ev (fun k => lin_Gcd.l0 k acc l (l.length:Int) i) (fit (gcdL (l.map (·.f1)) 0)).1 := by
  intro d
  induction d with
  | zero =>
    intro i acc h1 h2 hacc
    rw [List.take_of_length_le (by omega)] at hacc
    subst hacc
    have hI : I64 (l.map (·.f1)) := by
      intro x hx
      obtain ⟨m, hm, rfl⟩ := List.mem_map.1 hx
      exact (hl m hm).2
    have hg : Ev (fun k => num_Gcd.f k (l.map (·.f1))) (fit (gcdL (l.map (·.f1)) 0)) := Gcd_ev _ (by simp; omega) hI
    refine Ev.succ (Ev.of (Ev.bind (g := fun _ t => some t.1) hg (Ev.now fun _ => rfl)) fun k => ?_)
    simp only [lin_Gcd.l0]
    rw [if_neg (by omega)]
  | succ d ih =>
    intro i acc h1 h2 hacc
    have hi : i < l.length := by omega
    refine Ev.succ (Ev.of (ih (i+1) (acc ++ [l[i].f1]) (by omega) (by omega) ?_) fun k => ?_)
    · rw [hacc, List.take_succ_eq_append_getElem hi, List.map_append]; rfl
    · have hal : acc.length ≤ 1000000 := by rw [hacc]; simp; omega
      simp only [lin_Gcd.l0]
      rw [if_pos (by omega), if_pos (by omega), if_pos (by omega), if_pos (by omega), rdM_at l i hi, w64 (by omega) (by omega)]; rfl
theorem gcdF_ev (K : Int) (l : List S68) (hl : M64 l) (hlen : l.length ≤ 1000000) : Ev (fun k => lin_Gcd.f k K l) (gL l) :=
  gcdF_l0 l hl hlen _ 0 [] rfl (by omega) (by simp)
theorem gL_range (l : List S68) : 0 ≤ gL l ∧ gL l ≤ 9223372036854775807 := by
  unfold gL fit; split <;> simp <;> omega
theorem gL_dvd (l : List S68) (h : 2 ≤ gL l) : ∀ m ∈ l, gL l ∣ m.f1 := by
  intro m hm
  have h1 := (gcdL_dvd (l.map (·.f1)) 0).2 m.f1 (List.mem_map.2 ⟨m, hm, rfl⟩)
  have h2 : gL l = ((gcdL (l.map (·.f1)) 0 : Nat) : Int) := by
    unfold gL fit at *
    split
    · rfl
    · rename_i e; rw [if_neg e] at h; simp at h
  rw [h2]
  exact Int.ofNat_dvd_left.2 h1
/-- What is tight. -/
def tightD (K : Int) (l : List S68) (b : Bool) : Int × List S68 × Bool × Int :=
  if rightL (-1) l = true then
    (if gL l < 2 then (K, l, b, 0)
     else if b = true ∧ ¬ Int.tmod K (gL l) = 0 then (1, [], true, 0)
     else (ceilD K (gL l), l.map (divM (gL l)), b, 0))
  else (0, [], false, 1)
theorem Tight_ev {K : Int} (hK : R64 K) (l : List S68) (b : Bool) (hl : M64 l) (hlen : l.length ≤ 1000000) :
    Ev (fun k => ineq_Tight.f k K l b) (tightD K l b) := by
  refine Ev.bind (iRight_ev K l b (by omega)) ?_
  unfold tightD
  by_cases e : rightL (-1) l = true
  · rw [if_pos e, if_pos e]
    simp only [if_true]
    refine Ev.bind (gcdF_ev K l hl hlen) ?_
    have hg := gL_range l
    by_cases e2 : gL l < 2
    · rw [if_pos e2]
      refine Ev.pos e2 (Ev.now fun k => ?_)
      rw [Mono_eq l (by omega)]; rfl
    · rw [if_neg e2]
      have hD := divided_ev hK (show 1 ≤ gL l by omega) hg.2 l hl (by omega)
      by_cases e3 : b = true
      · subst e3
        by_cases e4 : Int.tmod K (gL l) = 0
        · rw [if_neg (by simp [e4])]
          exact Ev.neg e2 (Ev.pos rfl (Ev.neg (by omega) (Ev.pos e4 (Ev.bind hD (Ev.now fun _ => rfl)))))
        · rw [if_pos ⟨rfl, e4⟩]
          exact Ev.neg e2 (Ev.pos rfl (Ev.neg (by omega) (Ev.neg e4 (Ev.now fun _ => rfl))))
      · rw [if_neg (by simp [e3])]
        exact Ev.neg e2 (Ev.neg e3 (Ev.bind hD (Ev.now fun _ => rfl)))
  · rw [if_neg e, if_neg e]
    exact Ev.now fun k => by rw [if_neg (by decide)]
instance instR64 (n : Int) : Decidable (R64 n) := inferInstanceAs (Decidable (_ ∧ _))
theorem tdiv_mul_dvd {a d : Int} (hd : d ∣ a) : d * Int.tdiv a d = a := Int.mul_tdiv_cancel' hd
theorem rightL_div (d : Int) : ∀ (l : List S68) (last : Int), (∀ m ∈ l, d ∣ m.f1) → rightL last l = true → rightL last (l.map (divM d)) = true := by
  intro l
  induction l with
  | nil => intro _ _ _; rfl
  | cons a l ih =>
    intro last h hr
    simp only [rightL, Bool.and_eq_true, decide_eq_true_eq, List.map_cons] at hr ⊢
    refine ⟨⟨⟨hr.1.1.1, hr.1.1.2⟩, ?_⟩, ih a.f0 (fun m hm => h m (List.mem_cons_of_mem _ hm)) hr.2⟩
    have h1 := tdiv_mul_dvd (h a (List.mem_cons_self ..))
    intro e
    simp only [divM] at e
    rw [e] at h1
    have := hr.1.2
    simp at h1
    omega
theorem ceilD_R64 {K d : Int} (hK : R64 K) (hd : 1 ≤ d) : R64 (ceilD K d) := by
  have h := ceil_law (K := K) hd
  have h1 := hK.1
  have h2 := hK.2
  constructor
  · rcases Int.lt_or_le (ceilD K d) 0 with n | n
    · have : d * ceilD K d ≤ 1 * ceilD K d := Int.mul_le_mul_of_nonpos_right hd (by omega)
      omega
    · omega
  · rcases Int.lt_or_le 1 (ceilD K d) with n | n
    · have : 1 * (ceilD K d - 1) ≤ d * (ceilD K d - 1) := Int.mul_le_mul_of_nonneg_right hd (by omega)
      omega
    · omega
theorem evalFold_add (x : List Int) : ∀ (l : List S68) (s : Int), l.foldl (evalStep x) s = s + l.foldl (evalStep x) 0 := by
  intro l
  induction l with
  | nil => intro s; simp
  | cons a l ih =>
    intro s
    simp only [List.foldl_cons]
    rw [ih (evalStep x s a), ih (evalStep x 0 a)]
    unfold evalStep; split <;> omega
theorem evalSum_eq (K : Int) (l : List S68) (x : List Int) : evalSum K l x = K + l.foldl (evalStep x) 0 := by
  unfold evalSum; rw [evalFold_add]; omega
theorem evalFold_div (x : List Int) (d : Int) : ∀ (l : List S68), (∀ m ∈ l, d ∣ m.f1) → d * (l.map (divM d)).foldl (evalStep x) 0 = l.foldl (evalStep x) 0 := by
  intro l
  induction l with
  | nil => intro _; simp
  | cons a l ih =>
    intro h
    simp only [List.foldl_cons, List.map_cons]
    rw [evalFold_add x l, evalFold_add x (l.map (divM d)), Int.mul_add, ih (fun m hm => h m (List.mem_cons_of_mem _ hm))]
    have h1 := tdiv_mul_dvd (h a (List.mem_cons_self ..))
    congr 1
    unfold evalStep divM
    simp only
    split
    · rw [Int.zero_add, Int.zero_add, ← Int.mul_assoc, h1]
    · simp
/-- Divided, the value is divided, and rounded up. -/
theorem eval_div (K : Int) (l : List S68) (x : List Int) (d : Int) (hd : 1 ≤ d) (h : ∀ m ∈ l, d ∣ m.f1) : evalSum (ceilD K d) (l.map (divM d)) x = ceilD (evalSum K l x) d := by
  rw [evalSum_eq, evalSum_eq, ← evalFold_div x d l h]
  generalize (l.map (divM d)).foldl (evalStep x) 0 = s
  have h1 := ceil_law (K := K) hd
  refine ceilD_uniq hd ?_ ?_
  · rw [show ceilD K d + s - 1 = (ceilD K d - 1) + s by omega, Int.mul_add]; omega
  · rw [Int.mul_add]; omega
/-- Does an inequality hold? -/
def holdsD (K : Int) (l : List S68) (b : Bool) (x : List Int) : Bool × Int :=
  if rightL (-1) l = true then
    (if R64 (evalSum K l x) then (if evalSum K l x = 0 then (true, 0) else if evalSum K l x < 0 then (!b, 0) else (false, 0)) else (false, 5))
  else (false, 1)
theorem Holds_ev {K : Int} (hK : R64 K) (l : List S68) (b : Bool) (x : List Int) (hl : M64 l) (hx : I64 x) (hlen : l.length ≤ 1000000) :
    Ev (fun k => ineq_Holds.f k K l b x) (holdsD K l b x) := by
  refine Ev.bind (iRight_ev K l b (by omega)) ?_
  unfold holdsD
  by_cases e : rightL (-1) l = true
  · rw [if_pos e, if_pos e]
    simp only [if_true]
    refine Ev.bind (Eval_ev K l x hK hl hx (by omega)) (Ev.now fun k => ?_)
    rw [if_pos e]
    unfold fit64
    by_cases e2 : R64 (evalSum K l x)
    · rw [if_pos e2]
      have : -9223372036854775808 ≤ evalSum K l x ∧ evalSum K l x ≤ 9223372036854775807 := e2
      simp only [if_pos this, if_true]
      repeat' split
      all_goals rfl
    · rw [if_neg e2]
      have : ¬ (-9223372036854775808 ≤ evalSum K l x ∧ evalSum K l x ≤ 9223372036854775807) := e2
      simp only [if_neg this, if_true]
      rfl
  · rw [if_neg e, if_neg e]
    exact Ev.now fun k => by rw [if_neg (by decide)]
theorem tight_holds {K : Int} (hK : R64 K) (l : List S68) (b : Bool) (x : List Int) (hl : M64 l) (hr : rightL (-1) l = true) (ho : (holdsD K l b x).2 = 0) :
    holdsD (tightD K l b).1 (tightD K l b).2.1 (tightD K l b).2.2.1 x = holdsD K l b x := by
  have hV : R64 (evalSum K l x) := by
    unfold holdsD at ho
    rw [if_pos hr] at ho
    by_cases e : R64 (evalSum K l x)
    · exact e
    · rw [if_neg e] at ho; simp at ho
  unfold tightD
  rw [if_pos hr]
  by_cases e1 : gL l < 2
  · rw [if_pos e1]
  rw [if_neg e1]
  have hg := gL_range l
  have hdv := gL_dvd l (by omega)
  have hs := evalFold_div x (gL l) l hdv
  by_cases e2 : b = true ∧ ¬ Int.tmod K (gL l) = 0
  · rw [if_pos e2]
    obtain ⟨rfl, e3⟩ := e2
    have hne : evalSum K l x ≠ 0 := by
      rw [evalSum_eq, ← hs]
      intro h
      apply e3
      rw [show K = gL l * -((l.map (divM (gL l))).foldl (evalStep x) 0) by rw [Int.mul_neg]; omega]
      exact Int.mul_tmod_right ..
    unfold holdsD
    rw [if_pos hr, if_pos hV, if_neg hne]
    have e1 : evalSum 1 [] x = 1 := rfl
    simp only [e1, rightL, if_true, Bool.not_true]
    rw [if_pos (show R64 1 from ⟨by omega, by omega⟩)]
    simp
  · rw [if_neg e2]
    unfold holdsD
    simp only
    rw [if_pos hr, if_pos (rightL_div (gL l) l (-1) hdv hr), eval_div K l x (gL l) (by omega) hdv, if_pos hV, if_pos (ceilD_R64 hV (by omega))]
    have hc := ceil_law (K := evalSum K l x) (d := gL l) (by omega)
    have hk : b = true → evalSum K l x = gL l * ceilD (evalSum K l x) (gL l) := by
      intro hb
      have h0 : Int.tmod K (gL l) = 0 := by
        rcases Classical.em (Int.tmod K (gL l) = 0) with h | h
        · exact h
        · exact absurd ⟨hb, h⟩ e2
      have hd : gL l ∣ evalSum K l x := by
        rw [evalSum_eq, ← hs]
        exact Int.dvd_add (Int.dvd_of_tmod_eq_zero h0) (Int.dvd_mul_right ..)
      obtain ⟨q, hq⟩ := hd
      have := ceilD_uniq (K := evalSum K l x) (d := gL l) (c := q) (by omega) (by rw [Int.mul_sub]; omega) (by omega)
      rw [← this]; exact hq
    generalize evalSum K l x = V at *
    generalize ceilD V (gL l) = c at *
    have hgl : 2 ≤ gL l := by omega
    generalize gL l = g at *
    have h0 : V = 0 → c = 0 := by
      intro h
      subst h
      have a1 : g * (c - 1) < g * 0 := by omega
      have a2 : g * 0 ≤ g * c := by omega
      have b1 := Int.lt_of_mul_lt_mul_left a1 (by omega)
      have b2 := Int.le_of_mul_le_mul_left a2 (by omega)
      omega
    have hn : V < 0 → c ≤ 0 := by
      intro h
      have a1 : g * (c - 1) < g * 0 := by omega
      have b1 := Int.lt_of_mul_lt_mul_left a1 (by omega)
      omega
    have hp : V > 0 → c > 0 := by
      intro h
      have a1 : g * 0 < g * c := by omega
      exact Int.lt_of_mul_lt_mul_left a1 (by omega)
    rcases Int.lt_trichotomy V 0 with v | v | v
    · rw [if_neg (show ¬ V = 0 by omega), if_pos v]
      have := hn v
      by_cases c0 : c = 0
      · rw [if_pos c0]
        cases b
        · rfl
        · have := hk rfl; rw [c0] at this; omega
      · rw [if_neg c0, if_pos (by omega)]
    · rw [if_pos v, if_pos (h0 v)]
    · have := hp v
      rw [if_neg (show ¬ V = 0 by omega), if_neg (show ¬ V < 0 by omega), if_neg (show ¬ c = 0 by omega), if_neg (show ¬ c < 0 by omega)]
theorem told_eq (n : Int) (b : Bool) : num_told.f n b = some (if b = true then (n, true) else (0, false)) := by
  unfold num_told.f; split <;> rfl
theorem Sub_eq {a b : Int} (h1 : -9223372036854775808 ≤ a) (h2 : a ≤ 9223372036854775807) (h3 : -9223372036854775808 ≤ b) (h4 : b ≤ 9223372036854775807) :
    num_Sub.f a b = some (fitI (a - b)) := by
  unfold num_Sub.f
  rw [told_eq]
  simp only [Option.bind_some]
  congr 1
  unfold fitI
  by_cases h : -9223372036854775808 ≤ a - b ∧ a - b ≤ 9223372036854775807
  · rw [w64 h.1 h.2, if_pos h, show decide (a - b < a) = decide (b > 0) by rw [decide_eq_decide]; omega]; simp
  · rw [if_neg h]
    have : (decide (wrap64 (a - b) < a) == decide (b > 0)) = false := by
      rw [beq_eq_false_iff_ne, Ne, decide_eq_decide]; unfold wrap64; omega
    rw [this]; rfl
theorem Neg_eq {a : Int} (h1 : -9223372036854775808 ≤ a) (h2 : a ≤ 9223372036854775807) : num_Neg.f a = some (fitI (-a)) := by
  unfold num_Neg.f
  rw [Sub_eq (by omega) (by omega) h1 h2]
  simp only [Option.bind_some]
  rw [show (0:Int) - a = -a by omega]
def allGo (x : List Int) : List S70 → Int → Int × Int
  | [], _ => (-1, 0)
  | q :: qs, i => if (holdsD q.f0.f0 q.f0.f1 q.f1 x).2 = 0 then (if (holdsD q.f0.f0 q.f0.f1 q.f1 x).1 = true then allGo x qs (i + 1) else (i, 0)) else (i, (holdsD q.f0.f0 q.f0.f1 q.f1 x).2)
def allD (l : List S70) (x : List Int) : Int × Int := allGo x l 0
section
variable (l : List S70) (hl : l.length ≤ 1000000) (hR : ∀ q ∈ l, R64 q.f0.f0 ∧ M64 q.f0.f1) (hm : ∀ q ∈ l, q.f0.f1.length ≤ 1000000)
include hl hR hm
theorem all32_l0 (x : List Int) (hx : I64 x) : ∀ (d i : Nat), l.length - i = d → i ≤ l.length → Ev (fun k => ineq_All.l0 k x l (l.length : Int) i) (allGo x (l.drop i) i) := by
  intro d
  induction d with
  | zero =>
    intro i e1 e2
    rw [List.drop_eq_nil_of_le (by omega)]
    refine Ev.succ ?_
    simp only [ineq_All.l0]
    exact Ev.neg (by omega) (Ev.now fun _ => rfl)
  | succ d ih =>
    intro i e1 e2
    have hi : i < l.length := by omega
    have hI := ih (i + 1) (by omega) (by omega)
    have hRi := hR _ (List.getElem_mem hi)
    rw [List.drop_eq_getElem_cons hi]
    refine Ev.succ ?_
    simp only [ineq_All.l0]
    rw [rdI_at l i hi, show wrap64 ((i:Int) + 1) = ((i+1 : Nat) : Int) by rw [w64 (by omega) (by omega)]; omega]
    refine Ev.pos (by omega) (Ev.pos (by omega) (Ev.pos (by omega) (Ev.bind (Holds_ev hRi.1 l[i].f0.f1 l[i].f1 x hRi.2 hx (hm _ (List.getElem_mem hi))) ?_)))
    simp only [allGo]
    by_cases c : (holdsD l[i].f0.f0 l[i].f0.f1 l[i].f1 x).2 = 0
    · by_cases c2 : (holdsD l[i].f0.f0 l[i].f0.f1 l[i].f1 x).1 = true
      · refine Ev.pos c (Ev.pos c2 (hI.val ?_))
        rw [if_pos c, if_pos c2]; simp
      · exact Ev.pos c (Ev.neg c2 (Ev.now fun _ => by rw [if_pos c, if_neg c2, c]))
    · exact Ev.neg c (Ev.now fun _ => by rw [if_neg c])
theorem all32_ev (x : List Int) (hx : I64 x) : Ev (fun k => ineq_All.f k l x) (allD l x) := by
  have := all32_l0 l hl hR hm x hx _ 0 rfl (by omega)
  rw [List.drop_zero] at this
  exact this
end
theorem few_l1 (l : List S70) (lo hi : List Int) (h1 : lo.length ≤ 1000000) (most : Int) : ∀ (d i : Nat) (n : Int), lo.length - i = d → i ≤ lo.length → ∃ b, Ev (fun k => sequiturlaw32_Few.l1 k l lo hi most n i) b := by
  intro d
  induction d with
  | zero =>
    intro i n e1 e2
    by_cases c : n ≤ most
    · refine ⟨true, Ev.succ ?_⟩
      simp only [sequiturlaw32_Few.l1]
      refine Ev.neg (by omega) (Ev.succ ?_)
      simp only [sequiturlaw32_Few.j3]
      exact Ev.neg (by simp) (Ev.pos c (Ev.now fun _ => rfl))
    · refine ⟨decide (n > 65536), Ev.succ ?_⟩
      simp only [sequiturlaw32_Few.l1]
      refine Ev.neg (by omega) (Ev.succ ?_)
      simp only [sequiturlaw32_Few.j3]
      exact Ev.neg (by simp) (Ev.neg c (Ev.now fun _ => rfl))
  | succ d ih =>
    intro i n e1 e2
    have hi1 : i < lo.length := by omega
    by_cases c0 : i < hi.length
    · have key : ∃ b, Ev (fun k => if rd lo (i : Int) > rd hi (i : Int) then some true else if (IntKind.u64.wrap ((IntKind.u64.wrap (rd hi (i : Int))) - (IntKind.u64.wrap (rd lo (i : Int))))) ≥ 100000 then some (decide ((l.length : Int) ≤ 20)) else if n > 100000 then some (decide ((l.length : Int) ≤ 20)) else sequiturlaw32_Few.l1 k l lo hi most (wrap64 (n * (wrap64 ((wrap64 (IntKind.u64.wrap ((IntKind.u64.wrap (rd hi (i : Int))) - (IntKind.u64.wrap (rd lo (i : Int)))))) + 1)))) (wrap64 ((i : Int) + 1))) b := by
        rw [show wrap64 ((i:Int) + 1) = ((i+1 : Nat) : Int) by rw [w64 (by omega) (by omega)]; omega]
        by_cases c1 : rd lo (i : Int) > rd hi (i : Int)
        · exact ⟨_, Ev.pos c1 (Ev.now fun _ => rfl)⟩
        by_cases c2 : (IntKind.u64.wrap ((IntKind.u64.wrap (rd hi (i : Int))) - (IntKind.u64.wrap (rd lo (i : Int))))) ≥ 100000
        · exact ⟨_, Ev.neg c1 (Ev.pos c2 (Ev.now fun _ => rfl))⟩
        by_cases c3 : n > 100000
        · exact ⟨_, Ev.neg c1 (Ev.neg c2 (Ev.pos c3 (Ev.now fun _ => rfl)))⟩
        obtain ⟨b, hb⟩ := ih (i + 1) (wrap64 (n * (wrap64 ((wrap64 (IntKind.u64.wrap ((IntKind.u64.wrap (rd hi (i : Int))) - (IntKind.u64.wrap (rd lo (i : Int)))))) + 1)))) (by omega) (by omega)
        exact ⟨b, Ev.neg c1 (Ev.neg c2 (Ev.neg c3 hb))⟩
      obtain ⟨b, hb⟩ := key
      refine ⟨b, Ev.succ ?_⟩
      simp only [sequiturlaw32_Few.l1]
      rw [decide_eq_true (show (i : Int) < (hi.length : Int) by omega)]
      refine Ev.pos (by omega) (Ev.succ ?_)
      simp only [sequiturlaw32_Few.j3]
      exact Ev.pos trivial (Ev.pos (by omega) (Ev.pos (by omega) (Ev.pos (by omega) hb)))
    · by_cases c : n ≤ most
      · refine ⟨true, Ev.succ ?_⟩
        simp only [sequiturlaw32_Few.l1]
        rw [decide_eq_false (show ¬ (i : Int) < (hi.length : Int) by omega)]
        refine Ev.pos (by omega) (Ev.succ ?_)
        simp only [sequiturlaw32_Few.j3]
        exact Ev.neg (by simp) (Ev.pos c (Ev.now fun _ => rfl))
      · refine ⟨decide (n > 65536), Ev.succ ?_⟩
        simp only [sequiturlaw32_Few.l1]
        rw [decide_eq_false (show ¬ (i : Int) < (hi.length : Int) by omega)]
        refine Ev.pos (by omega) (Ev.succ ?_)
        simp only [sequiturlaw32_Few.j3]
        exact Ev.neg (by simp) (Ev.neg c (Ev.now fun _ => rfl))
theorem few_l0 (l : List S70) (lo hi : List Int) (hl : l.length ≤ 20) (h1 : lo.length ≤ 1000000) (most : Int) : ∀ (d i : Nat), l.length - i = d → i ≤ l.length → (∀ q ∈ l.take i, q.f0.f1.length ≤ 20) →
    ∃ b, Ev (fun k => sequiturlaw32_Few.l0 k l lo hi most l (l.length : Int) i) b ∧ (b = true → ∀ q ∈ l, q.f0.f1.length ≤ 20) := by
  intro d
  induction d with
  | zero =>
    intro i e1 e2 e3
    obtain ⟨b, hb⟩ := few_l1 l lo hi h1 most _ 0 1 rfl (by omega)
    refine ⟨b, Ev.succ ?_, fun _ => ?_⟩
    · simp only [sequiturlaw32_Few.l0]
      exact Ev.neg (by omega) hb
    · rw [List.take_of_length_le (by omega)] at e3
      exact e3
  | succ d ih =>
    intro i e1 e2 e3
    have hi' : i < l.length := by omega
    by_cases c : ((l[i].f0.f1).length : Int) > 20
    · refine ⟨false, Ev.succ ?_, fun h => by cases h⟩
      simp only [sequiturlaw32_Few.l0]
      rw [rdI_at l i hi']
      exact Ev.pos (by omega) (Ev.pos (by omega) (Ev.pos (by omega) (Ev.pos c (Ev.now fun _ => rfl))))
    · obtain ⟨b, hb, hq⟩ := ih (i + 1) (by omega) (by omega) (by
        rw [List.take_succ_eq_append_getElem hi']
        intro q hq
        rcases List.mem_append.1 hq with hq | hq
        · exact e3 q hq
        · simp at hq; subst hq; omega)
      refine ⟨b, Ev.succ ?_, hq⟩
      simp only [sequiturlaw32_Few.l0]
      rw [rdI_at l i hi', show wrap64 ((i:Int) + 1) = ((i+1 : Nat) : Int) by rw [w64 (by omega) (by omega)]; omega]
      exact Ev.pos (by omega) (Ev.pos (by omega) (Ev.pos (by omega) (Ev.neg c hb)))
theorem few_ev (l : List S70) (lo hi : List Int) (most : Int) : ∃ b, Ev (fun k => sequiturlaw32_Few.f k l lo hi most) b ∧ (b = true → l.length ≤ 20 ∧ lo.length ≤ 10 ∧ hi.length ≤ 10 ∧ ∀ q ∈ l, q.f0.f1.length ≤ 20) := by
  have hj : Ev (fun k => sequiturlaw32_Few.j0 k l lo hi most true) false := by
    refine Ev.succ ?_
    simp only [sequiturlaw32_Few.j0]
    exact Ev.pos trivial (Ev.now fun _ => rfl)
  unfold sequiturlaw32_Few.f
  by_cases c1 : (l.length : Int) > 20
  · exact ⟨false, Ev.pos c1 hj, fun h => by cases h⟩
  by_cases c2 : (lo.length : Int) > 10
  · exact ⟨false, Ev.neg c1 (Ev.pos c2 hj), fun h => by cases h⟩
  by_cases c3 : (hi.length : Int) > 10
  · refine ⟨false, Ev.neg c1 (Ev.neg c2 ?_), fun h => by cases h⟩
    rw [decide_eq_true c3]
    exact hj
  obtain ⟨b, hb, hq⟩ := few_l0 l lo hi (by omega) (by omega) most _ 0 rfl (by omega) (by simp)
  refine ⟨b, Ev.neg c1 (Ev.neg c2 ?_), fun h => ⟨by omega, by omega, by omega, hq h⟩⟩
  rw [decide_eq_false c3]
  refine Ev.succ ?_
  simp only [sequiturlaw32_Few.j0]
  exact Ev.neg (by simp) hb
theorem alive32_ev : Ev (fun k => sequiturlaw32_alive.f k) true := Ev.mono 200 sequiturlaw32_alive.mono (by decide +kernel)
open Go.ChangeShapes Go.WideShapes
theorem list_of {α : Type} (n : Nat) (p : Nat → α → Prop) (h : ∀ i, i < n → ∃ x, p i x) : ∃ l : List α, l.length = n ∧ ∀ i x, l[i]? = some x → p i x := by
  induction n with
  | zero => exact ⟨[], rfl, by simp⟩
  | succ n ih =>
    obtain ⟨l, hl, hp⟩ := ih (fun i hi => h i (by omega))
    obtain ⟨x, hx⟩ := h n (by omega)
    refine ⟨l ++ [x], by simp [hl], fun i y hy => ?_⟩
    rcases Nat.lt_or_ge i n with q | q
    · rw [List.getElem?_append_left (by omega)] at hy; exact hp i y hy
    · rw [List.getElem?_append_right (by omega)] at hy
      have : i - l.length = 0 := by
        rcases Nat.eq_zero_or_pos (i - l.length) with e | e
        · exact e
        · rw [List.getElem?_eq_none (by simp; omega)] at hy; cases hy
      rw [this] at hy
      obtain rfl : x = y := by simpa using hy
      rw [show i = n by omega]; exact hx
/-- An argument that is a slice, opened: a list of what its elements are. -/
theorem open_row {H : Type} {enc : TypeId × Value → H} {W : World} {held : Bool} {α : Type} (d : Kd α) (Q : α → Prop) {t e : TypeId} {spare : Nat → Bool} {fuel : Nat} {A : Option Addr} {n c : Nat} {x : DataW H × List MemPlace}
    (ht : Try.prog.underlying t = some (.slice e)) (hsz : Try.prog.cellsOf e = d.sz)
    (ho : ∀ m cs y, DataW.trod enc Try.prog W 0 spare held m e cs = some y → ∃ x, d.K W x cs ∧ Q x)
    (h : DataW.trod enc Try.prog W 0 spare held fuel t [.slice A n c] = some x) :
    ∃ l : List α, l.length = n ∧ n ≤ c ∧ c ≤ maxLen ∧ d.C W A n l ∧ ∀ x ∈ l, Q x := by
  rcases Go.Deep.open_slice ht h with ⟨hcs, _⟩ | ⟨a, len, cap, m, n', D, Pl, hcs, _, hl, hm, hmm, _, hi⟩
  · simp at hcs
    obtain ⟨rfl, rfl, rfl⟩ := hcs
    exact ⟨[], rfl, Nat.le_refl _, Nat.zero_le _, Kd.C_nil d W, by simp⟩
  · simp at hcs
    obtain ⟨rfl, rfl, rfl⟩ := hcs
    have hmn : n ≤ m := by rw [hmm]; split <;> omega
    obtain ⟨l, h1, h2⟩ := list_of n (fun i x => (∃ cs, cs.length = d.sz ∧ d.K W x cs ∧ ∀ j u, cs[j]? = some u → W.cell? (a.add (i * d.sz + j)) = some u) ∧ Q x) (fun i hin => by
      obtain ⟨cs, hc, hx⟩ := hi i (by omega)
      obtain ⟨x, hK, hQ⟩ := ho _ _ _ hx
      obtain ⟨_, hlen, hat⟩ := World.cells?_some hc
      refine ⟨x, ⟨cs, hlen.trans hsz, hK, fun j u hj => ?_⟩, hQ⟩
      have hjl : j < cs.length := by
        rcases Nat.lt_or_ge j cs.length with q | q
        · exact q
        · rw [List.getElem?_eq_none q] at hj; cases hj
      rw [← hj, ← hat j (by omega), hsz, Go.Deep.add_add])
    refine ⟨l, h1, hl, hm, ⟨h1, ?_, fun _ => ⟨a, rfl, fun j p hj => (h2 j p hj).1⟩⟩, fun x hx => ?_⟩
    · have : maxLen = 9223372036854775807 := rfl
      omega
    · obtain ⟨i, hi', he⟩ := List.getElem_of_mem hx
      exact (h2 i x (by rw [List.getElem?_eq_getElem hi', he])).2
theorem open_int1 {H : Type} {enc : TypeId × Value → H} {W : World} {held : Bool} {spare : Nat → Bool} {m : Nat} {e : TypeId} (hu : Try.prog.underlying e = some (.int .i64)) (cs : List Value) (y : DataW H × List MemPlace) (h : DataW.trod enc Try.prog W 0 spare held m e cs = some y) :
    ∃ x : Int, (Kd.int .i64).K W x cs ∧ (-9223372036854775808 ≤ x ∧ x ≤ 9223372036854775807) := by
  obtain ⟨n, rfl, _, hw⟩ := DataW.trod_int hu h
  exact ⟨n, rfl, wf64 hw⟩
theorem open_ints1 {H : Type} {enc : TypeId × Value → H} {W : World} {held : Bool} {spare : Nat → Bool} {fuel : Nat} {t e : TypeId} {A : Option Addr} {n c : Nat} {x : DataW H × List MemPlace} (hu : Try.prog.underlying t = some (.slice e)) (he : Try.prog.underlying e = some (.int .i64)) (hc : Try.prog.cellsOf e = 1)
    (h : DataW.trod enc Try.prog W 0 spare held fuel t [.slice A n c] = some x) :
    ∃ l : List Int, l.length = n ∧ n ≤ c ∧ c ≤ maxLen ∧ Kd.C (Kd.int .i64) W A n l ∧ I64 l :=
  open_row (Kd.int .i64) _ hu hc (fun _ cs y h => open_int1 he cs y h) h
/-- A monomial's cells. -/
theorem open_mono {H : Type} {enc : TypeId × Value → H} {W : World} {held : Bool} {spare : Nat → Bool} {m : Nat} (cs : List Value) (y : DataW H × List MemPlace) (h : DataW.trod enc Try.prog W 0 spare held m 68 cs = some y) :
    ∃ x : S68, k68.K W x cs ∧ ((-9223372036854775808 ≤ x.f0 ∧ x.f0 ≤ 9223372036854775807) ∧ -9223372036854775808 ≤ x.f1 ∧ x.f1 ≤ 9223372036854775807) := by
  obtain ⟨y0, y1, n, _, hl, h0, h1⟩ := trod_struct2 Try.underlying68 h
  have e0 : Try.prog.cellsOf 3 = 1 := by kernel_rfl
  have e1 : Try.prog.cellsOf 2 = 1 := by kernel_rfl
  have e2 : Try.prog.cellsOf 68 = 2 := by kernel_rfl
  simp only [e0, e1] at h0 h1
  rw [e2] at hl
  match cs, hl with
  | [c0, c1], _ =>
    obtain ⟨a, ha, _, hw⟩ := DataW.trod_int Try.underlying3 h0
    obtain ⟨b, hb, _, hw2⟩ := DataW.trod_int Try.underlying2 h1
    simp at ha hb
    subst ha hb
    exact ⟨⟨a, b⟩, k68_mk W ⟨a, b⟩, wf64 hw, wf64 hw2⟩
/-- A form's cells. -/
theorem open_lin {H : Type} {enc : TypeId × Value → H} {W : World} {held : Bool} {spare : Nat → Bool} {m : Nat} (cs : List Value) (y : DataW H × List MemPlace) (h : DataW.trod enc Try.prog W 0 spare held m 62 cs = some y) :
    ∃ (x : S62) (A : Option Addr) (c : Nat), cs = [.int .i64 x.f0, .slice A x.f1.length c] ∧ x.f1.length ≤ c ∧ c ≤ maxLen ∧ Kd.C k68 W A x.f1.length x.f1 ∧ R64 x.f0 ∧ M64 x.f1 := by
  obtain ⟨y0, y1, n, _, hl, h0, h1⟩ := trod_struct2 Try.underlying62 h
  have e1 : Try.prog.cellsOf 2 = 1 := by kernel_rfl
  have e0 : Try.prog.cellsOf 60 = 1 := by kernel_rfl
  have e2 : Try.prog.cellsOf 62 = 2 := by kernel_rfl
  simp only [e0, e1] at h0 h1
  rw [e2] at hl
  match cs, hl with
  | [c0, c1], _ =>
    obtain ⟨a, ha, _, hw⟩ := DataW.trod_int Try.underlying2 h0
    simp at ha
    subst ha
    have h2 : DataW.trod enc Try.prog W 0 spare held n 60 [c1] = some y1 := h1
    have hs : ∃ A n c, c1 = .slice A n c := by
      rcases Go.Deep.open_slice Try.underlying60 h2 with ⟨hcs, _⟩ | ⟨a, len, cap, m, n', D, Pl, hcs, _⟩
      · simp at hcs; exact ⟨_, _, _, hcs⟩
      · simp at hcs; exact ⟨_, _, _, hcs⟩
    obtain ⟨A, len, c, rfl⟩ := hs
    obtain ⟨l, rfl, hc, hm, hC, hQ⟩ := open_row k68 _ Try.underlying60 (by kernel_rfl) (fun _ cs y h => open_mono cs y h) h2
    exact ⟨⟨a, l⟩, A, c, rfl, hc, hm, hC, wf64 hw, hQ⟩
/-- An inequality's cells. -/
theorem open_ineq {H : Type} {enc : TypeId × Value → H} {W : World} {held : Bool} {spare : Nat → Bool} {m : Nat} (cs : List Value) (y : DataW H × List MemPlace) (h : DataW.trod enc Try.prog W 0 spare held m 70 cs = some y) :
    ∃ (x : S70) (A : Option Addr) (c : Nat), cs = [.int .i64 x.f0.f0, .slice A x.f0.f1.length c, .bool x.f1] ∧ x.f0.f1.length ≤ c ∧ c ≤ maxLen ∧ Kd.C k68 W A x.f0.f1.length x.f0.f1 ∧ R64 x.f0.f0 ∧ M64 x.f0.f1 := by
  obtain ⟨y0, y1, n, _, hl, h0, h1⟩ := trod_struct2 Try.underlying70 h
  have e1 : Try.prog.cellsOf 4 = 1 := by kernel_rfl
  have e0 : Try.prog.cellsOf 62 = 2 := by kernel_rfl
  have e2 : Try.prog.cellsOf 70 = 3 := by kernel_rfl
  simp only [e0, e1] at h0 h1
  rw [e2] at hl
  match cs, hl with
  | [c0, c1, c2], _ =>
    obtain ⟨b, hb, _⟩ := DataW.trod_bool Try.underlying4 h1
    simp at hb
    subst hb
    obtain ⟨x, A, c, hcs, hc, hm, hC, hr, hM⟩ := open_lin _ _ h0
    simp at hcs
    obtain ⟨rfl, rfl⟩ := hcs
    exact ⟨⟨x, b⟩, A, c, rfl, hc, hm, hC, hr, hM⟩
def Q30 (x : S70) : Prop := R64 x.f0.f0 ∧ M64 x.f0.f1 ∧ x.f0.f1.length ≤ maxLen
theorem open_ineqK {H : Type} {enc : TypeId × Value → H} {W : World} {held : Bool} {spare : Nat → Bool} {m : Nat} (cs : List Value) (y : DataW H × List MemPlace) (h : DataW.trod enc Try.prog W 0 spare held m 70 cs = some y) :
    ∃ x : S70, k70.K W x cs ∧ Q30 x := by
  obtain ⟨x, A, c, rfl, hc, hm, hC, hr, hM⟩ := open_ineq cs y h
  exact ⟨x, k70_mk W x hc hC, hr, hM, Nat.le_trans hc hm⟩
def mostB (b : S117) (v : Int) : S117 := if b.f3 = true then (if v < b.f1 then ⟨b.f0, v, b.f2, true⟩ else b) else ⟨b.f0, v, b.f2, true⟩
def leastB (b : S117) (v : Int) : S117 := if b.f2 = true then (if v > b.f0 then ⟨v, b.f1, true, b.f3⟩ else b) else ⟨v, b.f1, true, b.f3⟩
def putB (all : List S117) (v : Int) (g : S117 → S117) : List S117 := all.set v.toNat (g (rd_T117 all v))
/-- What an inequality of one variable says: which, whether of 1 times, and the number. -/
def tellB (n K : Int) (L : List S68) (eq : Bool) (all : List S117) : List S117 :=
  if L.length = 1 then
    (if (rd_T68 L 0).f0 < 0 ∨ (rd_T68 L 0).f0 ≥ n then all
     else if (rd_T68 L 0).f1 = 1 then
       (if R64 (-K) then (if eq = true then putB (putB all (rd_T68 L 0).f0 (mostB · (-K))) (rd_T68 L 0).f0 (leastB · (-K)) else putB all (rd_T68 L 0).f0 (mostB · (-K))) else all)
     else if (rd_T68 L 0).f1 = -1 then
       (if eq = true then putB (putB all (rd_T68 L 0).f0 (mostB · K)) (rd_T68 L 0).f0 (leastB · K) else putB all (rd_T68 L 0).f0 (leastB · K))
     else all)
  else all
def stepB (n : Int) (all : List S117) (q : S70) : List S117 :=
  if rightL (-1) q.f0.f1 = true then tellB n (tightD q.f0.f0 q.f0.f1 q.f1).1 (tightD q.f0.f0 q.f0.f1 q.f1).2.1 (tightD q.f0.f0 q.f0.f1 q.f1).2.2.1 all else all
theorem putB_len (all : List S117) (v : Int) (g : S117 → S117) : (putB all v g).length = all.length := by unfold putB; simp
theorem putB_at (all : List S117) (v : Int) (g : S117 → S117) (u : Nat) (hu : u < (putB all v g).length) (hu' : u < all.length) : (putB all v g)[u] = if v.toNat = u then g (rd_T117 all v) else all[u] := List.getElem_set ..
theorem stepB_len (n : Int) (all : List S117) (q : S70) : (stepB n all q).length = all.length := by
  unfold stepB tellB
  repeat' split
  all_goals simp [putB_len]
theorem rd_set (all : List S117) (v : Int) (e : S117) (h0 : 0 ≤ v) (h1 : v < (all.length : Int)) : rd_T117 (all.set v.toNat e) v = e := by
  have : v.toNat < all.length := by omega
  simp [rd_T117, this]
def outB (all : List S117) : List Int × List Int × Bool := if (all.all fun b => b.f2 && b.f3) = true then (all.map (·.f0), all.map (·.f1), true) else ([], [], false)
theorem bnd_l1 (all : List S117) (hl : all.length ≤ 64) : ∀ (d i : Nat) (lo hi : List Int), all.length - i = d → i ≤ all.length → lo.length ≤ i → hi.length ≤ i →
    Ev (fun k => box_Bounds.l1 k lo hi all (all.length : Int) i) (if ((all.drop i).all fun b => b.f2 && b.f3) = true then (lo ++ (all.drop i).map (·.f0), hi ++ (all.drop i).map (·.f1), true) else ([], [], false)) := by
  intro d
  induction d with
  | zero =>
    intro i lo hi e1 e2 e3 e4
    rw [List.drop_eq_nil_of_le (by omega)]
    refine Ev.succ ?_
    simp only [box_Bounds.l1]
    exact Ev.neg (by omega) (Ev.now fun _ => by simp)
  | succ d ih =>
    intro i lo hi e1 e2 e3 e4
    have hi' : i < all.length := by omega
    have hr : rd_T117 all (i : Int) = all[i] := by simp [rd_T117, hi']
    rw [List.drop_eq_getElem_cons hi']
    refine Ev.succ ?_
    simp only [box_Bounds.l1]
    rw [hr, show wrap64 ((i:Int) + 1) = ((i+1 : Nat) : Int) by rw [w64 (by omega) (by omega)]; omega]
    refine Ev.pos (by omega) (Ev.pos (by omega) (Ev.pos (by omega) ?_))
    by_cases c1 : all[i].f2 = true
    · by_cases c2 : all[i].f3 = true
      · refine Ev.pos c1 (Ev.pos c2 (Ev.bind (Ev.now fun _ => rfl) (Ev.pos (by simp; omega) (Ev.bind (Ev.now fun _ => rfl) (Ev.pos (by simp; omega) ?_)))))
        refine (ih (i + 1) _ _ (by omega) (by omega) (by simp; omega) (by simp; omega)).val ?_
        simp only [List.all_cons, List.map_cons, c1, c2, Bool.and_true, Bool.true_and, List.append_assoc, List.cons_append, List.nil_append]
      · have c2' : all[i].f3 = false := by simpa using c2
        exact Ev.pos c1 (Ev.neg c2 (Ev.now fun _ => by simp only [List.all_cons, c2', Bool.and_false, Bool.false_and, Bool.false_eq_true, if_false]))
    · have c1' : all[i].f2 = false := by simpa using c1
      exact Ev.neg c1 (Ev.now fun _ => by simp only [List.all_cons, c1', Bool.false_and, Bool.false_eq_true, if_false])
/-- The number that is least: put, or left. -/
theorem bnd_j8 (l : List S70) (n : Int) (R : List Int × List Int × Bool) (i : Nat) (v val : Int) (all : List S117) (hv0 : 0 ≤ v) (hv1 : v < (all.length : Int)) (b : Bool)
    (hgo : Ev (fun k => box_Bounds.l0 k n (if b = true then putB all v (leastB · val) else all) l (l.length : Int) (wrap64 ((i : Int) + 1))) R) :
    Ev (fun k => box_Bounds.j8 k n all v val l (l.length : Int) i b) R := by
  refine Ev.succ ?_
  simp only [box_Bounds.j8]
  cases b with
  | false => exact Ev.neg (by simp) hgo
  | true =>
    rw [if_pos rfl] at hgo
    refine Ev.pos rfl (Ev.pos hv0 (Ev.pos hv1 ?_))
    unfold putB leastB at hgo
    dsimp only at hgo
    by_cases c1 : (rd_T117 all v).f2 = true
    · rw [if_pos c1] at hgo
      by_cases c2 : val > (rd_T117 all v).f0
      · rw [if_pos c2] at hgo
        refine Ev.pos c1 (Ev.pos c2 (Ev.bind (Ev.now fun _ => rfl) ?_))
        rw [rd_set _ _ _ hv0 hv1, List.set_set]
        exact hgo
      · rw [if_neg c2] at hgo
        refine Ev.pos c1 (Ev.neg c2 ?_)
        have hs : all.set v.toNat (rd_T117 all v) = all := by
          have h : v.toNat < all.length := by omega
          simp [rd_T117, h]
        rw [hs] at hgo
        exact hgo
    · rw [if_neg c1] at hgo
      refine Ev.neg c1 (Ev.bind (Ev.now fun _ => rfl) ?_)
      rw [rd_set _ _ _ hv0 hv1, List.set_set]
      exact hgo
theorem bnd_j6 (l : List S70) (n : Int) (R : List Int × List Int × Bool) (i : Nat) (v by_ val K : Int) (L : List S68) (eq : Bool) (all : List S117) (hv0 : 0 ≤ v) (hv1 : v < (all.length : Int)) (b : Bool)
    (hgo : Ev (fun k => box_Bounds.l0 k n (if (eq || by_ == -1) = true then putB (if b = true then putB all v (mostB · val) else all) v (leastB · val) else (if b = true then putB all v (mostB · val) else all)) l (l.length : Int) (wrap64 ((i : Int) + 1))) R) :
    Ev (fun k => box_Bounds.j6 k n all v by_ val l (l.length : Int) i b K L eq) R := by
  have hj7 : ∀ all' : List S117, all'.length = all.length → all' = (if b = true then putB all v (mostB · val) else all) → Ev (fun k => box_Bounds.j7 k n all' v by_ val l (l.length : Int) i K L eq) R := by
    intro all' h1 h2
    subst h2
    have h8 := bnd_j8 l n R i v val (if b = true then putB all v (mostB · val) else all) hv0 (by rw [h1]; exact hv1) (eq || by_ == -1) hgo
    refine Ev.succ ?_
    simp only [box_Bounds.j7]
    cases eq with
    | true => exact Ev.pos rfl h8
    | false => exact Ev.neg (by simp) h8
  refine Ev.succ ?_
  simp only [box_Bounds.j6]
  cases b with
  | false => exact Ev.neg (by simp) (hj7 all rfl rfl)
  | true =>
    rw [if_pos rfl] at hj7
    refine Ev.pos rfl (Ev.pos hv0 (Ev.pos hv1 ?_))
    unfold putB mostB at hj7
    dsimp only at hj7
    by_cases c1 : (rd_T117 all v).f3 = true
    · rw [if_pos c1] at hj7
      by_cases c2 : val < (rd_T117 all v).f1
      · rw [if_pos c2] at hj7
        refine Ev.pos c1 (Ev.pos c2 (Ev.bind (Ev.now fun _ => rfl) ?_))
        rw [rd_set _ _ _ hv0 hv1, List.set_set]
        exact hj7 _ (by simp) rfl
      · rw [if_neg c2] at hj7
        refine Ev.pos c1 (Ev.neg c2 (hj7 all rfl ?_))
        have h : v.toNat < all.length := by omega
        simp [rd_T117, h]
    · rw [if_neg c1] at hj7
      refine Ev.neg c1 (Ev.bind (Ev.now fun _ => rfl) ?_)
      rw [rd_set _ _ _ hv0 hv1, List.set_set]
      exact hj7 _ (by simp) rfl
section
variable (l : List S70) (hl : l.length ≤ 1000000) (hR : ∀ q ∈ l, R64 q.f0.f0 ∧ M64 q.f0.f1) (hm : ∀ q ∈ l, q.f0.f1.length ≤ 1000000) (n : Int) (h0 : 0 ≤ n) (hn : n ≤ 64)
include hl hR hm h0 hn
theorem bnd_l0 : ∀ (d i : Nat) (all : List S117), l.length - i = d → i ≤ l.length → (all.length : Int) = n →
    Ev (fun k => box_Bounds.l0 k n all l (l.length : Int) i) (outB ((l.drop i).foldl (stepB n) all)) := by
  intro d
  induction d with
  | zero =>
    intro i all e1 e2 e3
    rw [List.drop_eq_nil_of_le (by omega)]
    have := bnd_l1 all (by omega) _ 0 [] [] rfl (by omega) (by simp) (by simp)
    rw [List.drop_zero] at this
    refine Ev.succ ?_
    simp only [box_Bounds.l0]
    refine Ev.neg (by omega) (this.val ?_)
    unfold outB
    simp
  | succ d ih =>
    intro i all e1 e2 e3
    have hi : i < l.length := by omega
    obtain ⟨hK, hM⟩ := hR _ (List.getElem_mem hi)
    have hln := hm _ (List.getElem_mem hi)
    have hT := Tight_ev hK l[i].f0.f1 l[i].f1 hM hln
    have hI := iRight_ev l[i].f0.f0 l[i].f0.f1 l[i].f1 (by omega)
    rw [List.drop_eq_getElem_cons hi, List.foldl_cons]
    have hgo := fun a (h : (a.length : Int) = n) => ih (i + 1) a (by omega) (by omega) h
    have hw : wrap64 ((i:Int) + 1) = ((i+1 : Nat) : Int) := by rw [w64 (by omega) (by omega)]; omega
    refine Ev.succ ?_
    simp only [box_Bounds.l0]
    rw [rdI_at l i hi]
    refine Ev.pos (by omega) (Ev.pos (by omega) (Ev.pos (by omega) (Ev.bind hT (Ev.bind hI ?_))))
    obtain ⟨⟨K, L, eq, er⟩, hD⟩ : ∃ T, T = tightD l[i].f0.f0 l[i].f0.f1 l[i].f1 := ⟨_, rfl⟩
    have hstep : stepB n all l[i] = if rightL (-1) l[i].f0.f1 = true then tellB n K L eq all else all := by unfold stepB; rw [← hD]
    rw [← hD]
    simp only
    have hskip : ∀ (a b c : Int), stepB n all l[i] = all → Ev (fun k => box_Bounds.j2 k n all l (l.length : Int) i true K L eq) (outB ((l.drop (i + 1)).foldl (stepB n) (stepB n all l[i]))) := by
      intro _ _ _ hs
      rw [hs]
      refine Ev.succ ?_
      simp only [box_Bounds.j2]
      rw [hw]
      exact Ev.pos trivial (hgo all e3)
    by_cases cr : rightL (-1) l[i].f0.f1 = true
    · rw [if_pos cr] at hstep
      rw [if_pos cr]
      have her : er = 0 := by
        have : er = (tightD l[i].f0.f0 l[i].f0.f1 l[i].f1).2.2.2 := by rw [← hD]
        rw [this]
        unfold tightD
        rw [if_pos cr]
        repeat' split
        all_goals rfl
      have hK' : R64 K := by
        have : K = (tightD l[i].f0.f0 l[i].f0.f1 l[i].f1).1 := by rw [← hD]
        rw [this]
        unfold tightD
        rw [if_pos cr]
        repeat' split
        · exact hK
        · exact ⟨by omega, by omega⟩
        · exact ceilD_R64 hK (by omega)
      refine Ev.pos rfl (Ev.pos her ?_)
      by_cases cL : L.length = 1
      · have hne : ((L.length : Int) != 1) = false := by rw [cL]; rfl
        unfold tellB at hstep
        rw [if_pos cL] at hstep
        rw [hne]
        refine Ev.succ ?_
        simp only [box_Bounds.j2]
        refine Ev.neg (by simp) (Ev.pos (by omega) ?_)
        have hskip3 : ∀ b : Int, stepB n all l[i] = all → Ev (fun k => box_Bounds.j3 k n all (rd_T68 L 0).f0 b l (l.length : Int) i true K L eq) (outB ((l.drop (i + 1)).foldl (stepB n) (stepB n all l[i]))) := by
          intro b hs
          rw [hs]
          refine Ev.succ ?_
          simp only [box_Bounds.j3]
          rw [hw]
          exact Ev.pos trivial (hgo all e3)
        by_cases v1 : (rd_T68 L 0).f0 < 0
        · rw [if_pos (.inl v1)] at hstep
          exact Ev.pos v1 (hskip3 _ hstep)
        by_cases v2 : (rd_T68 L 0).f0 ≥ n
        · rw [if_pos (.inr v2)] at hstep
          exact Ev.neg v1 (Ev.pos v2 (hskip3 _ hstep))
        rw [if_neg (fun h => h.elim v1 v2)] at hstep
        refine Ev.neg v1 (Ev.neg v2 ?_)
        have hNeg := Neg_eq hK'.1 hK'.2
        have hj3 : ∀ (R : List Int × List Int × Bool) (val : Int) (fits : Bool) (_ : (fits, val) = (if (rd_T68 L 0).f1 = 1 then ((fitI (-K)).2, (fitI (-K)).1) else ((fitI (-K)).2, K))), Ev (fun k => box_Bounds.j4 k n all (rd_T68 L 0).f0 (rd_T68 L 0).f1 fits val l (l.length : Int) i K L eq) R → Ev (fun k => box_Bounds.j3 k n all (rd_T68 L 0).f0 (rd_T68 L 0).f1 l (l.length : Int) i false K L eq) R := by
          intro R val fits hf h
          refine Ev.succ ?_
          simp only [box_Bounds.j3]
          rw [hNeg]
          refine Ev.neg (by simp) (Ev.bind (Ev.now fun _ => rfl) ?_)
          by_cases c : (rd_T68 L 0).f1 = 1
          · rw [if_pos c] at hf
            simp only [Prod.mk.injEq] at hf
            obtain ⟨rfl, rfl⟩ := hf
            exact Ev.pos c h
          · rw [if_neg c] at hf
            simp only [Prod.mk.injEq] at hf
            obtain ⟨rfl, rfl⟩ := hf
            exact Ev.neg c h
        have hv1' : (rd_T68 L 0).f0 < (all.length : Int) := by omega
        have hj5 : ∀ (R : List Int × List Int × Bool) (val : Int), Ev (fun k => box_Bounds.l0 k n (if (eq || (rd_T68 L 0).f1 == -1) = true then putB (if (eq || (rd_T68 L 0).f1 == 1) = true then putB all (rd_T68 L 0).f0 (mostB · val) else all) (rd_T68 L 0).f0 (leastB · val) else (if (eq || (rd_T68 L 0).f1 == 1) = true then putB all (rd_T68 L 0).f0 (mostB · val) else all)) l (l.length : Int) (wrap64 ((i : Int) + 1))) R → Ev (fun k => box_Bounds.j5 k n all (rd_T68 L 0).f0 (rd_T68 L 0).f1 val l (l.length : Int) i false K L eq) R := by
          intro R val h
          have h6 := bnd_j6 l n R i (rd_T68 L 0).f0 (rd_T68 L 0).f1 val K L eq all (by omega) hv1' (eq || (rd_T68 L 0).f1 == 1) h
          refine Ev.succ ?_
          simp only [box_Bounds.j5]
          refine Ev.neg (by simp) ?_
          cases eq with
          | true => exact Ev.pos rfl h6
          | false => exact Ev.neg (by simp) h6
        by_cases b1 : (rd_T68 L 0).f1 = 1
        · rw [if_pos b1] at hstep
          refine Ev.pos b1 (hj3 _ (fitI (-K)).1 (fitI (-K)).2 (by rw [if_pos b1]) (Ev.succ ?_))
          simp only [box_Bounds.j4]
          refine Ev.pos b1 ?_
          by_cases f : R64 (-K)
          · have hfit : fitI (-K) = (-K, true) := if_pos f
            rw [if_pos f] at hstep
            rw [hfit]
            refine hj5 _ (-K) ?_
            rw [hw, hstep, b1]
            have hl2 : ∀ a : List S117, (a.length : Int) = n → Ev (fun k => box_Bounds.l0 k n a l (l.length : Int) ((i + 1 : Nat) : Int)) (outB ((l.drop (i + 1)).foldl (stepB n) a)) := hgo
            cases eq with
            | true => exact hl2 _ (by simp [putB_len]; omega)
            | false => exact hl2 _ (by simp [putB_len]; omega)
          · have hfit : (fitI (-K)).2 = false := congrArg Prod.snd (if_neg f : fitI (-K) = (0, false))
            rw [if_neg f] at hstep
            rw [hfit, hstep]
            refine Ev.succ ?_
            simp only [box_Bounds.j5]
            rw [hw]
            exact Ev.pos (by simp) (hgo all e3)
        · rw [if_neg b1] at hstep
          refine Ev.neg b1 ?_
          by_cases b2 : (rd_T68 L 0).f1 = -1
          · rw [if_pos b2] at hstep
            have hb : ((rd_T68 L 0).f1 != (-1)) = false := by rw [b2]; rfl
            rw [hb]
            refine hj3 _ K (fitI (-K)).2 (by rw [if_neg b1]) (Ev.succ ?_)
            simp only [box_Bounds.j4]
            refine Ev.neg b1 (hj5 _ K ?_)
            rw [hw, hstep, b2]
            cases eq with
            | true => exact hgo _ (by simp [putB_len]; omega)
            | false => exact hgo _ (by simp [putB_len]; omega)
          · rw [if_neg b2] at hstep
            have hb : ((rd_T68 L 0).f1 != (-1)) = true := bne_iff_ne.mpr b2
            rw [hb]
            exact hskip3 _ hstep
      · have hne : ((L.length : Int) != 1) = true := by simp; omega
        unfold tellB at hstep
        rw [if_neg cL] at hstep
        rw [hne]
        exact hskip 0 0 0 hstep
    · rw [if_neg cr] at hstep
      rw [if_neg cr]
      exact Ev.neg (by decide) (hskip 0 0 0 hstep)
end
def boundsD (l : List S70) (n : Int) : List Int × List Int × Bool := if n < 0 ∨ n > 64 then ([], [], false) else outB (l.foldl (stepB n) (List.replicate n.toNat z117))
theorem bounds32_ev (l : List S70) (hl : l.length ≤ 1000000) (hR : ∀ q ∈ l, R64 q.f0.f0 ∧ M64 q.f0.f1) (hm : ∀ q ∈ l, q.f0.f1.length ≤ 1000000) (n : Int) : Ev (fun k => box_Bounds.f k l n) (boundsD l n) := by
  have hj : Ev (fun k => box_Bounds.j0 k l n true) (([] : List Int), ([] : List Int), false) := by
    refine Ev.succ ?_
    simp only [box_Bounds.j0]
    exact Ev.pos trivial (Ev.now fun _ => rfl)
  unfold boundsD
  by_cases c1 : n < 0
  · rw [if_pos (.inl c1)]
    exact Ev.pos c1 hj
  by_cases c2 : n > 64
  · rw [if_pos (.inr c2)]
    refine Ev.neg c1 ?_
    rw [decide_eq_true c2]
    exact hj
  rw [if_neg (fun h => h.elim c1 c2)]
  refine Ev.neg c1 ?_
  rw [decide_eq_false c2]
  refine Ev.succ ?_
  simp only [box_Bounds.j0]
  have := bnd_l0 l hl hR hm n (by omega) (by omega) _ 0 (List.replicate n.toNat z117) rfl (by omega) (by simp; omega)
  rw [List.drop_zero] at this
  exact Ev.neg (by simp) (Ev.pos (by omega) (Ev.pos (by omega) this))
def InvB (x : List Int) (all : List S117) : Prop := ∀ (v : Nat) (h : v < all.length), (all[v].f3 = true → rd x (v : Int) ≤ all[v].f1) ∧ (all[v].f2 = true → all[v].f0 ≤ rd x (v : Int))
theorem InvB_most {x : List Int} {all : List S117} (h : InvB x all) (v : Int) (h0 : 0 ≤ v) (h1 : v < (all.length : Int)) (val : Int) (hv : rd x v ≤ val) : InvB x (putB all v (mostB · val)) := by
  intro u hu
  rw [putB_len] at hu
  have hn : v.toNat < all.length := by omega
  have hr : rd_T117 all v = all[v.toNat] := by simp [rd_T117, hn]
  rw [putB_at _ _ _ _ _ hu]
  by_cases e : v.toNat = u
  · subst e
    rw [if_pos rfl, hr]
    have hh := h v.toNat hn
    rw [show ((v.toNat : Nat) : Int) = v by omega] at hh ⊢
    unfold mostB
    split
    · split
      · exact ⟨fun _ => hv, hh.2⟩
      · exact hh
    · exact ⟨fun _ => hv, hh.2⟩
  · rw [if_neg e]
    exact h u hu
theorem InvB_least {x : List Int} {all : List S117} (h : InvB x all) (v : Int) (h0 : 0 ≤ v) (h1 : v < (all.length : Int)) (val : Int) (hv : val ≤ rd x v) : InvB x (putB all v (leastB · val)) := by
  intro u hu
  rw [putB_len] at hu
  have hn : v.toNat < all.length := by omega
  have hr : rd_T117 all v = all[v.toNat] := by simp [rd_T117, hn]
  rw [putB_at _ _ _ _ _ hu]
  by_cases e : v.toNat = u
  · subst e
    rw [if_pos rfl, hr]
    have hh := h v.toNat hn
    rw [show ((v.toNat : Nat) : Int) = v by omega] at hh ⊢
    unfold leastB
    split
    · split
      · exact ⟨hh.1, fun _ => hv⟩
      · exact hh
    · exact ⟨hh.1, fun _ => hv⟩
  · rw [if_neg e]
    exact h u hu
theorem InvB_step {x : List Int} {all : List S117} {n : Int} (hn : (all.length : Int) = n) (hx : n ≤ (x.length : Int)) {q : S70} (hR : R64 q.f0.f0 ∧ M64 q.f0.f1) (hh : holdsD q.f0.f0 q.f0.f1 q.f1 x = (true, 0)) (h : InvB x all) : InvB x (stepB n all q) := by
  unfold stepB
  split
  · rename_i hr
    have ht := tight_holds hR.1 q.f0.f1 q.f1 x hR.2 hr (by rw [hh])
    rw [hh] at ht
    generalize tightD q.f0.f0 q.f0.f1 q.f1 = T at ht ⊢
    obtain ⟨K, L, eq, er⟩ := T
    simp only at ht ⊢
    unfold tellB
    split
    · rename_i hL
      obtain ⟨m, rfl⟩ : ∃ m, L = [m] := by
        match L, hL with
        | [m], _ => exact ⟨m, rfl⟩
      have hm : rd_T68 [m] 0 = m := rfl
      rw [hm]
      split
      · exact h
      rename_i hv
      have hv0 : 0 ≤ m.f0 := by omega
      have hv1 : m.f0 < (all.length : Int) := by omega
      have hev : evalSum K [m] x = K + m.f1 * rd x m.f0 := by
        rw [evalSum_eq]
        simp only [List.foldl_cons, List.foldl_nil, evalStep]
        rw [if_pos (by omega)]; omega
      have hV : K + m.f1 * rd x m.f0 ≤ 0 ∧ (eq = true → K + m.f1 * rd x m.f0 = 0) := by
        unfold holdsD at ht
        rw [hev] at ht
        split at ht
        · split at ht
          · split at ht
            · exact ⟨by omega, fun _ => by assumption⟩
            · split at ht
              · rename_i hlt
                simp at ht
                exact ⟨by omega, fun e => by rw [e] at ht; cases ht⟩
              · simp at ht
          · simp at ht
        · simp at ht
      split
      · rename_i b1
        rw [b1, Int.one_mul] at hV
        split
        · split
          · rename_i he
            have := hV.2 he
            exact InvB_least (InvB_most h m.f0 hv0 hv1 (-K) (by omega)) m.f0 hv0 (by rw [putB_len]; exact hv1) (-K) (by omega)
          · exact InvB_most h m.f0 hv0 hv1 (-K) (by omega)
        · exact h
      · split
        · rename_i b2
          rw [b2] at hV
          split
          · rename_i he
            have := hV.2 he
            exact InvB_least (InvB_most h m.f0 hv0 hv1 K (by omega)) m.f0 hv0 (by rw [putB_len]; exact hv1) K (by omega)
          · exact InvB_least h m.f0 hv0 hv1 K (by omega)
        · exact h
    · exact h
  · exact h
theorem foldB_len (n : Int) : ∀ (l : List S70) (all : List S117), (l.foldl (stepB n) all).length = all.length := by
  intro l
  induction l with
  | nil => intro all; rfl
  | cons q l ih => intro all; rw [List.foldl_cons, ih, stepB_len]
theorem InvB_fold {x : List Int} {n : Int} (hx : n ≤ (x.length : Int)) : ∀ (l : List S70) (all : List S117), (∀ q ∈ l, (R64 q.f0.f0 ∧ M64 q.f0.f1) ∧ holdsD q.f0.f0 q.f0.f1 q.f1 x = (true, 0)) → (all.length : Int) = n → InvB x all → InvB x (l.foldl (stepB n) all) := by
  intro l
  induction l with
  | nil => intro all _ _ h; exact h
  | cons q l ih =>
    intro all hl hn h
    have hq := hl q (List.mem_cons_self ..)
    exact ih _ (fun q hq => hl q (List.mem_cons_of_mem _ hq)) (by rw [stepB_len]; exact hn) (InvB_step hn hx hq.1 hq.2 h)
theorem allGo_all (x : List Int) : ∀ (l : List S70) (i : Int), 0 ≤ i → (allGo x l i).2 = 0 → (allGo x l i).1 < 0 → ∀ q ∈ l, holdsD q.f0.f0 q.f0.f1 q.f1 x = (true, 0) := by
  intro l
  induction l with
  | nil => intro i _ _ _ q hq; cases hq
  | cons p l ih =>
    intro i hi h1 h2 q hq
    simp only [allGo] at h1 h2
    by_cases c1 : (holdsD p.f0.f0 p.f0.f1 p.f1 x).2 = 0
    · by_cases c2 : (holdsD p.f0.f0 p.f0.f1 p.f1 x).1 = true
      · rw [if_pos c1, if_pos c2] at h1 h2
        rcases List.mem_cons.1 hq with rfl | hq
        · exact Prod.ext c2 c1
        · exact ih (i + 1) (by omega) h1 h2 q hq
      · rw [if_pos c1, if_neg c2] at h2
        simp only at h2; omega
    · rw [if_neg c1] at h1
      exact absurd h1 c1
theorem within_l0 (x lo hi : List Int) (n : Int) (hn : n ≤ 64) (h1 : (lo.length : Int) = n) (h2 : (hi.length : Int) = n) (hx : n ≤ (x.length : Int)) (h : ∀ v : Nat, (v : Int) < n → rd lo (v : Int) ≤ rd x (v : Int) ∧ rd x (v : Int) ≤ rd hi (v : Int)) : ∀ (d i : Nat), lo.length - i = d → i ≤ lo.length → Ev (fun k => sequiturlaw32_BoxWithin.l0 k n x lo hi i) true := by
  intro d
  induction d with
  | zero =>
    intro i e1 e2
    refine Ev.succ ?_
    simp only [sequiturlaw32_BoxWithin.l0]
    exact Ev.neg (by omega) (Ev.bind alive32_ev (Ev.now fun _ => rfl))
  | succ d ih =>
    intro i e1 e2
    have hh := h i (by omega)
    refine Ev.succ ?_
    simp only [sequiturlaw32_BoxWithin.l0]
    rw [show wrap64 ((i:Int) + 1) = ((i+1 : Nat) : Int) by rw [w64 (by omega) (by omega)]; omega]
    exact Ev.pos (by omega) (Ev.pos (by omega) (Ev.pos (by omega) (Ev.pos (by omega) (Ev.neg (by omega) (Ev.pos (by omega) (Ev.neg (by omega) (ih (i + 1) (by omega) (by omega))))))))
theorem BoxWithin_pure (l : List S70) (n : Int) (x : List Int) (hQ : ∀ q ∈ l, R64 q.f0.f0 ∧ M64 q.f0.f1) (hxI : I64 x) : ∃ k, sequiturlaw32_BoxWithin.f k l n x = some true := by
  obtain ⟨b, hb, hp⟩ := few_ev l [] [] 1
  have hA : Ev (fun k => (sequiturlaw32_alive.f k).bind fun t => some t) true := Ev.bind alive32_ev (Ev.now fun _ => rfl)
  have hj : Ev (fun k => sequiturlaw32_BoxWithin.j0 k l n x true) true := by
    refine Ev.succ ?_
    simp only [sequiturlaw32_BoxWithin.j0]
    exact Ev.pos trivial hA
  refine Ev.at_ (f := fun k => sequiturlaw32_BoxWithin.f k l n x) (Ev.bind hb ?_)
  by_cases cb : b = true
  · obtain ⟨n1, _, _, n4⟩ := hp cb
    have hm : ∀ q ∈ l, q.f0.f1.length ≤ 1000000 := fun q hq => by have := n4 q hq; omega
    refine Ev.pos cb ?_
    by_cases c1 : (x.length : Int) > 100
    · exact Ev.pos c1 hj
    refine Ev.neg c1 ?_
    by_cases c2 : (x.length : Int) < n
    · rw [decide_eq_true c2]; exact hj
    rw [decide_eq_false c2]
    refine Ev.succ ?_
    simp only [sequiturlaw32_BoxWithin.j0]
    refine Ev.neg (by simp) (Ev.bind (bounds32_ev l (by omega) hQ hm n) ?_)
    by_cases c3 : n < 0 ∨ n > 64
    · unfold boundsD
      rw [if_pos c3]
      exact Ev.neg (by simp) (Ev.pos (w64 (n := 0) (by omega) (by omega)) hA)
    have hB : boundsD l n = outB (l.foldl (stepB n) (List.replicate n.toNat z117)) := by unfold boundsD; rw [if_neg c3]
    rw [hB]
    obtain ⟨all, hall⟩ : ∃ all, all = l.foldl (stepB n) (List.replicate n.toNat z117) := ⟨_, rfl⟩
    have hlen : (all.length : Int) = n := by rw [hall, foldB_len]; simp; omega
    rw [← hall]
    unfold outB
    by_cases c4 : (all.all fun b => b.f2 && b.f3) = true
    · rw [if_pos c4]
      refine Ev.pos rfl (Ev.bind (all32_ev l (by omega) hQ hm x hxI) ?_)
      have hout : Ev (fun k => sequiturlaw32_BoxWithin.j1 k n x (all.map (·.f0)) (all.map (·.f1)) true) true := by
        refine Ev.succ ?_
        simp only [sequiturlaw32_BoxWithin.j1]
        exact Ev.pos trivial (Ev.pos (by simp; omega) (Ev.pos (by simp; omega) hA))
      by_cases c5 : (allD l x).2 = 0
      · refine Ev.pos c5 ?_
        by_cases c6 : (allD l x).1 ≥ 0
        · rw [decide_eq_true c6]; exact hout
        · rw [decide_eq_false c6]
          have hI := InvB_fold (x := x) (n := n) (by omega) l (List.replicate n.toNat z117) (fun q hq => ⟨hQ q hq, allGo_all x l 0 (by omega) c5 (by show (allD l x).1 < 0; omega) q hq⟩) (by simp; omega) (fun v hv => by
            simp only [List.getElem_replicate]
            exact ⟨fun h => absurd h (by decide), fun h => absurd h (by decide)⟩)
          rw [← hall] at hI
          refine Ev.succ ?_
          simp only [sequiturlaw32_BoxWithin.j1]
          refine Ev.neg (by simp) (within_l0 x _ _ n (by omega) (by simp; omega) (by simp; omega) (by omega) (fun v hv => ?_) _ 0 rfl (by omega))
          have hv' : v < all.length := by omega
          have hf := List.all_eq_true.1 c4 all[v] (List.getElem_mem hv')
          rw [Bool.and_eq_true] at hf
          have := hI v hv'
          have ha : v < (all.map (·.f0)).length := by rw [List.length_map]; exact hv'
          have hb : v < (all.map (·.f1)).length := by rw [List.length_map]; exact hv'
          rw [rd_at _ v ha, rd_at _ v hb, List.getElem_map, List.getElem_map]
          exact ⟨this.2 hf.1, this.1 hf.2⟩
      · exact Ev.neg c5 hout
    · rw [if_neg c4]
      exact Ev.neg (by simp) (Ev.pos (w64 (n := 0) (by omega) (by omega)) hA)
  · exact Ev.neg cb hj
end Go.Proofs.Ytkfbfgkdabljiaa.Pure
