/- Whether any numbers are a witness of any system, or the error, is what the document says (asked of at most 80 forms of at most 80 monomials, at most 100 numbers, any div). -/
import Derived.Test.YtjinmlpekecmbaaPEuclidChecksx
import Derived.Laws.BitsAllLaws
import Derived.Deep.Slices
import Derived.ChangeSame
import Derived.KernelRfl
import Derived.OpenShut
namespace Go.Proofs.Ytjinmlpekecmbaa.Pure
open Go.RowKit Go.Proofs.Ytjinmlpekecmbaa.PEuclidChecks Go.Proofs.YtjinmlpekecmbaaW.PrintWords Go.Proofs.YtjinmlpekecmbaaW.PrintLast
set_option linter.unusedVariables false
set_option linter.unusedSimpArgs false
/-- A number, if it fits. -/
def fitI (n : Int) : Int × Bool := if -9223372036854775808 ≤ n ∧ n ≤ 9223372036854775807 then (n, true) else (0, false)
theorem abs_mul_lt {a b : Int} (h1 : -9223372036854775808 ≤ a) (h2 : a ≤ 9223372036854775807) (h3 : -9223372036854775808 ≤ b) (h4 : b ≤ 9223372036854775807) : a.natAbs * b.natAbs ≤ 85070591730234615865843651857942052864 :=
  Nat.le_trans (Nat.mul_le_mul (show a.natAbs ≤ 9223372036854775808 by omega) (show b.natAbs ≤ 9223372036854775808 by omega)) (by decide)
-- one round of the halving: x odd, y = 2^t * z, z odd
theorem u64w (n : Int) : IntKind.u64.wrap n = n % 18446744073709551616 := by
  simp [IntKind.wrap, IntKind.bits, IntKind.signed]
theorem wf64 {a : Int} (h : (Lit.int .i64 a).wf = true) : -9223372036854775808 ≤ a ∧ a ≤ 9223372036854775807 := by
  simpa [Lit.wf, IntKind.min, IntKind.max, IntKind.signed, IntKind.bits] using h
theorem w64 {n : Int} (h1 : -9223372036854775808 ≤ n) (h2 : n ≤ 9223372036854775807) : wrap64 n = n := by
  unfold wrap64; omega
def I64 (l : List Int) : Prop := ∀ x ∈ l, -9223372036854775808 ≤ x ∧ x ≤ 9223372036854775807
theorem rd_at (l : List Int) (i : Nat) (h : i < l.length) : rd l (i:Int) = l[i] := by
  simp [rd, h]
/-- At all great fuels the same answer. -/
def Ev {α : Type} (f : Nat → Option α) (v : α) : Prop := ∃ K, ∀ k, K ≤ k → f k = some v
theorem Ev.now {α : Type} {f : Nat → Option α} {v : α} (h : ∀ k, f k = some v) : Ev f v := ⟨0, fun k _ => h k⟩
theorem Ev.succ {α : Type} {f : Nat → Option α} {v : α} (h : Ev (fun k => f (k + 1)) v) : Ev f v := by
  obtain ⟨K, h⟩ := h
  refine ⟨K + 1, fun k hk => ?_⟩
  obtain ⟨m, rfl⟩ : ∃ m, k = m + 1 := ⟨k - 1, by omega⟩
  exact h m (by omega)
theorem Ev.bind {α β : Type} {f : Nat → Option α} {g : Nat → α → Option β} {v : α} {u : β} (h : Ev f v) (h2 : Ev (fun k => g k v) u) : Ev (fun k => (f k).bind (g k)) u := by
  obtain ⟨K, h⟩ := h
  obtain ⟨K2, h2⟩ := h2
  refine ⟨max K K2, fun k hk => ?_⟩
  show (f k).bind (g k) = some u
  rw [h k (by omega)]
  exact h2 k (by omega)
theorem Ev.of {α : Type} {f g : Nat → Option α} {v : α} (h : Ev f v) (e : ∀ k, g k = f k) : Ev g v := by
  obtain ⟨K, h⟩ := h
  exact ⟨K, fun k hk => (e k).trans (h k hk)⟩
theorem Ev.at_ {α : Type} {f : Nat → Option α} {v : α} (h : Ev f v) : ∃ k, f k = some v := by
  obtain ⟨K, h⟩ := h
  exact ⟨K, h K (Nat.le_refl _)⟩
theorem Ev.mono {α : Type} {f : Nat → Option α} {v : α} (K : Nat) (hm : ∀ k, LeO (f k) (f (k + 1))) (h : f K = some v) : Ev f v := by
  refine ⟨K, fun k hk => ?_⟩
  obtain ⟨d, rfl⟩ := Nat.exists_eq_add_of_le hk
  induction d with
  | zero => exact h
  | succ d ih => exact hm (K + d) v (ih (by omega))
theorem Ev.val {α : Type} {f : Nat → Option α} {v u : α} (h : Ev f v) (e : v = u) : Ev f u := e ▸ h
theorem Ev.pos {α : Type} {c : Prop} [Decidable c] {f g : Nat → Option α} {v : α} (h : c) (hf : Ev f v) : Ev (fun k => if c then f k else g k) v := hf.of fun k => if_pos h
theorem Ev.neg {α : Type} {c : Prop} [Decidable c] {f g : Nat → Option α} {v : α} (h : ¬ c) (hf : Ev g v) : Ev (fun k => if c then f k else g k) v := hf.of fun k => if_neg h
theorem rdM_at (l : List S44) (i : Nat) (h : i < l.length) : rd_T44 l (i:Int) = l[i] := by simp [rd_T44, h]
theorem rdQ_at (l : List S41) (i : Nat) (h : i < l.length) : rd_T41 l (i:Int) = l[i] := by simp [rd_T41, h]
/-- Are the variables in order, of the 64, and no factor zero? -/
def rightL : Int → List S44 → Bool
  | _, [] => true
  | last, m :: l => decide (last < m.f0) && decide (m.f0 < 64) && decide (m.f1 ≠ 0) && rightL m.f0 l
theorem Right_l0 (l : List S44) (hl : l.length ≤ 9223372036854775807) : ∀ (d i : Nat) (last : Int), l.length - i = d → i ≤ l.length →
    Ev (fun k => lin_Right.l0 k last l (l.length:Int) i) (if rightL last (l.drop i) = true then 0 else 1) := by
  intro d
  induction d with
  | zero =>
    intro i last h1 h2
    refine Ev.succ (Ev.now fun k => ?_)
    simp only [lin_Right.l0]
    rw [if_neg (by omega), List.drop_eq_nil_of_le (by omega)]; rfl
  | succ d ih =>
    intro i last h1 h2
    have hi : i < l.length := by omega
    rw [List.drop_eq_getElem_cons hi]
    by_cases e : last < l[i].f0 ∧ l[i].f0 < 64 ∧ l[i].f1 ≠ 0
    · obtain ⟨e1, e2, e3⟩ := e
      refine Ev.succ (Ev.of (ih (i+1) l[i].f0 (by omega) (by omega)) fun k => ?_) |>.val ?_
      · simp only [lin_Right.l0]
        rw [if_pos (by omega), if_pos (by omega), if_pos (by omega), rdM_at l i hi, if_neg (by omega), if_neg (by omega), if_neg e3, w64 (by omega) (by omega)]; rfl
      · simp only [rightL, decide_eq_true e1, decide_eq_true e2, decide_eq_true e3, Bool.true_and]
    · refine Ev.succ (Ev.now fun k => ?_)
      have hr : rightL last (l[i] :: l.drop (i+1)) = false := by
        simp only [rightL, Bool.and_eq_false_iff, decide_eq_false_iff_not]
        omega
      rw [hr]
      simp only [lin_Right.l0]
      rw [if_pos (by omega), if_pos (by omega), if_pos (by omega), rdM_at l i hi]
      by_cases e1 : l[i].f0 ≤ last
      · rw [if_pos e1]; rfl
      by_cases e2 : l[i].f0 ≥ 64
      · rw [if_neg e1, if_pos e2]; rfl
      · rw [if_neg e1, if_neg e2, if_pos (by omega)]; rfl
theorem Right_ev (K : Int) (l : List S44) (hl : l.length ≤ 9223372036854775807) : Ev (fun k => lin_Right.f k K l) (if rightL (-1) l = true then 0 else 1) := by
  have := Right_l0 l hl _ 0 (-1) rfl (by omega)
  exact this
theorem right1_ev (K : Int) (l : List S44) (hl : l.length ≤ 9223372036854775807) : Ev (fun k => lin_right_1.f k K l) (!rightL (-1) l) :=
  Ev.bind (Right_ev K l hl) (Ev.now fun _ => by cases rightL (-1) l <;> rfl)
theorem idx_l0 (l : List S41) (hl : l.length ≤ 9223372036854775807) (hm : ∀ q ∈ l, q.f1.length ≤ 9223372036854775807) : ∀ (d i : Nat), l.length - i = d → i ≤ l.length →
    ∃ v, Ev (fun k => api_Lin_66.l0 k l (l.length:Int) i) v ∧ decide (v ≥ 0) = !((l.drop i).all fun q => rightL (-1) q.f1) := by
  intro d
  induction d with
  | zero =>
    intro i h1 h2
    refine ⟨-1, Ev.succ (Ev.now fun k => ?_), ?_⟩
    · simp only [api_Lin_66.l0]
      rw [if_neg (by omega)]
    · rw [List.drop_eq_nil_of_le (by omega)]; rfl
  | succ d ih =>
    intro i h1 h2
    have hi : i < l.length := by omega
    rw [List.drop_eq_getElem_cons hi]
    have hq := right1_ev l[i].f0 l[i].f1 (hm _ (List.getElem_mem hi))
    obtain ⟨v, ev, hv⟩ := ih (i+1) (by omega) (by omega)
    have hs : ∀ k, api_Lin_66.l0 (k+1) l (l.length:Int) i = (lin_right_1.f k l[i].f0 l[i].f1).bind fun t => if t = true then some (i:Int) else api_Lin_66.l0 k l (l.length:Int) ((i+1 : Nat) : Int) := by
      intro k
      simp only [api_Lin_66.l0]
      rw [if_pos (by omega), if_pos (by omega), if_pos (by omega), rdQ_at l i hi, w64 (by omega) (by omega)]; rfl
    by_cases e : rightL (-1) l[i].f1 = true
    · rw [e] at hq
      refine ⟨v, Ev.succ (Ev.of (Ev.bind hq ?_) hs), ?_⟩
      · exact Ev.of ev fun k => by simp
      · rw [hv, List.all_cons, e, Bool.true_and]
    · have e' : rightL (-1) l[i].f1 = false := by simpa using e
      rw [e'] at hq
      refine ⟨i, Ev.succ (Ev.of (Ev.bind hq ?_) hs), ?_⟩
      · exact Ev.now fun k => by simp
      · rw [List.all_cons, e']; simp
theorem linright_ev (l : List S41) (hl : l.length ≤ 9223372036854775807) (hm : ∀ q ∈ l, q.f1.length ≤ 9223372036854775807) : Ev (fun k => lin_right.f k l) (l.all fun q => rightL (-1) q.f1) := by
  obtain ⟨v, ev, hv⟩ := idx_l0 l hl hm _ 0 rfl (by omega)
  rw [List.drop_zero] at hv
  refine Ev.bind (v := decide (v ≥ 0)) (Ev.bind ev (Ev.now fun _ => rfl)) (Ev.now fun _ => ?_)
  rw [hv]; simp
theorem rightL_mem : ∀ (l : List S44) (last : Int), rightL last l = true → ∀ m ∈ l, last < m.f0 ∧ m.f0 < 64 ∧ m.f1 ≠ 0 := by
  intro l
  induction l with
  | nil => intro last _ m hm; cases hm
  | cons a l ih =>
    intro last h m hm
    simp only [rightL, Bool.and_eq_true, decide_eq_true_eq] at h
    rcases List.mem_cons.1 hm with e | e
    · subst e; exact ⟨h.1.1.1, h.1.1.2, h.1.2⟩
    · have := ih a.f0 h.2 m e; omega
theorem rightL_len : ∀ (l : List S44) (last : Int), last ≤ 63 → rightL last l = true → (l.length : Int) ≤ 63 - last := by
  intro l
  induction l with
  | nil => intro last h _; simp; omega
  | cons a l ih =>
    intro last h0 h
    simp only [rightL, Bool.and_eq_true, decide_eq_true_eq] at h
    have := ih a.f0 (by omega) h.2
    simp only [List.length_cons]; omega
/-- The monomials' ranges. -/
def M64 (l : List S44) : Prop := ∀ m ∈ l, (-9223372036854775808 ≤ m.f0 ∧ m.f0 ≤ 9223372036854775807) ∧ -9223372036854775808 ≤ m.f1 ∧ m.f1 ≤ 9223372036854775807
def R64 (n : Int) : Prop := -9223372036854775808 ≤ n ∧ n ≤ 9223372036854775807
theorem in64_of {n : Int} (h : R64 n) : in64 n = true := by
  simp only [in64, Bool.and_eq_true, decide_eq_true_eq]; exact h
theorem mul_R64 {a b : Int} (ha : R64 a) (hb : R64 b) : -85070591730234615865843651857942052864 ≤ a * b ∧ a * b ≤ 85070591730234615865843651857942052864 := by
  have h := abs_mul_lt ha.1 ha.2 hb.1 hb.2
  rw [← Int.natAbs_mul] at h
  omega
theorem wrap192_id {s : Int} (h1 : -3138550867693340381917894711603833208051177722232017256448 ≤ s) (h2 : s < 3138550867693340381917894711603833208051177722232017256448) : wrap192 s = s := by
  unfold wrap192; omega
instance instR64 (n : Int) : Decidable (R64 n) := inferInstanceAs (Decidable (_ ∧ _))
theorem Far_eq {a : Int} (h1 : -9223372036854775808 ≤ a) (h2 : a ≤ 9223372036854775807) : sequiturref01_Far.f a = some (a.natAbs : Int) := by
  unfold sequiturref01_Far.f
  simp only [u64w]
  split <;> congr 1 <;> omega
/-- The two halves of a number, up to a multiple of 2^128. -/
def hiW (v : Int) : Int := wrap64 (v / 18446744073709551616)
def loW (v : Int) : Int := v % 18446744073709551616
theorem xor_all (x : Int) (h1 : 0 ≤ x) (h2 : x < 18446744073709551616) : Go.bits .xor .u64 18446744073709551615 x = 18446744073709551615 - x := by
  obtain ⟨n, rfl⟩ := Int.eq_ofNat_of_zero_le h1
  refine Eq.trans (u64_xor_nat 18446744073709551615 n (by decide) (by omega)) ?_
  have h : (BitVec.allOnes 64 ^^^ BitVec.ofNat 64 n).toNat = 18446744073709551615 ^^^ n := by
    rw [BitVec.toNat_xor, BitVec.toNat_allOnes, BitVec.toNat_ofNat, Nat.mod_eq_of_lt (by omega)]
  rw [BitVec.allOnes_xor, BitVec.toNat_not, BitVec.toNat_ofNat, Nat.mod_eq_of_lt (by omega)] at h
  omega
theorem Of_eq {a : Int} (h1 : -9223372036854775808 ≤ a) (h2 : a ≤ 9223372036854775807) : sequiturref01_Of.f a = some (hiW a, loW a) := by
  unfold sequiturref01_Of.f hiW loW wrap64
  simp only [u64w]
  split <;> congr 2 <;> omega
theorem Plus_eq (v w : Int) : sequiturref01_Plus.f (hiW v) (loW v) (hiW w) (loW w) = some (hiW (v + w), loW (v + w)) := by
  unfold sequiturref01_Plus.f hiW loW wrap64
  simp only [u64w]
  split <;> congr 2 <;> omega
theorem hiW0 : hiW 0 = 0 := by unfold hiW wrap64; omega
theorem loW0 : loW 0 = 0 := by decide
theorem hiW1 : hiW 1 = 0 := by unfold hiW wrap64; omega
theorem loW1 : loW 1 = 1 := by decide
theorem Minus_eq (v : Int) : sequiturref01_Minus.f (hiW v) (loW v) = some (hiW (-v), loW (-v)) := by
  unfold sequiturref01_Minus.f
  rw [xor_all _ (by unfold loW; omega) (by unfold loW; omega)]
  rw [show wrap64 (-1 - hiW v) = hiW (-1 - v) by unfold hiW wrap64; omega, show 18446744073709551615 - loW v = loW (-1 - v) by unfold loW; omega]
  have := Plus_eq (-1 - v) 1
  rw [hiW1, loW1] at this
  rw [this, show -1 - v + 1 = -v by omega]; rfl
theorem Fits_eq (v : Int) (h1 : -170141183460469231731687303715884105728 ≤ v) (h2 : v < 170141183460469231731687303715884105728) : sequiturref01_Fits.f (hiW v) (loW v) = some (fitI v) := by
  have e : wrap64 (loW v) = if loW v < 9223372036854775808 then loW v else loW v - 18446744073709551616 := by
    have : 0 ≤ loW v ∧ loW v < 18446744073709551616 := by unfold loW; omega
    unfold wrap64; split <;> omega
  have hh : hiW v = v / 18446744073709551616 := by unfold hiW; exact w64 (by omega) (by omega)
  unfold sequiturref01_Fits.f fitI
  rw [e, hh]
  unfold loW
  repeat' split
  all_goals first | omega | (congr 2; omega) | rfl
theorem Times_l0 : ∀ (u : Nat) (x o : Int), u < 18446744073709551616 → ∃ K, ∀ k, K ≤ k → sequiturref01_Times.l0 k u (hiW x) (loW x) (hiW o) (loW o) = some (hiW (o + u * x), loW (o + u * x)) := by
  intro u
  induction u using Nat.strongRecOn with
  | _ u ih =>
    intro x o hu
    by_cases h : u = 0
    · subst h
      refine ⟨1, fun k hk => ?_⟩
      obtain ⟨m, rfl⟩ : ∃ m, k = m + 1 := ⟨k - 1, by omega⟩
      simp only [sequiturref01_Times.l0]
      rw [if_neg (by omega)]; simp
    · have ht : Int.tdiv (u:Int) 2 = ((u / 2 : Nat) : Int) := (Int.ofNat_tdiv u 2).symm
      have hm : Int.tmod (u:Int) 2 = ((u % 2 : Nat) : Int) := (Int.ofNat_tmod u 2).symm
      have hw : IntKind.u64.wrap (Int.tdiv (u:Int) 2) = ((u / 2 : Nat) : Int) := by rw [ht, u64w]; omega
      have hx : ((u / 2 : Nat) : Int) * (x + x) = ((u - u % 2 : Nat) : Int) * x := by
        rw [← Int.two_mul, ← Int.mul_assoc]; congr 1; omega
      by_cases e : u % 2 = 1
      · obtain ⟨K, ev⟩ := ih (u / 2) (by omega) (x + x) (o + x) (by omega)
        refine ⟨K + 1, fun k hk => ?_⟩
        obtain ⟨m, rfl⟩ : ∃ m, k = m + 1 := ⟨k - 1, by omega⟩
        simp only [sequiturref01_Times.l0]
        rw [if_pos (by omega), hm, e, if_pos (by rfl), Plus_eq, Plus_eq]
        simp only [Option.bind_some]
        rw [hw, ev m (by omega), hx, e]
        have : o + x + ((u - 1 : Nat) : Int) * x = o + u * x := by
          have : (u : Int) = ((u - 1 : Nat) : Int) + 1 := by omega
          rw [this, Int.add_mul]; omega
        rw [this]
      · obtain ⟨K, ev⟩ := ih (u / 2) (by omega) (x + x) o (by omega)
        refine ⟨K + 1, fun k hk => ?_⟩
        obtain ⟨m, rfl⟩ : ∃ m, k = m + 1 := ⟨k - 1, by omega⟩
        simp only [sequiturref01_Times.l0]
        rw [if_pos (by omega), hm, if_neg (by omega), Plus_eq]
        simp only [Option.bind_some]
        rw [hw, ev m (by omega), hx, show u % 2 = 0 by omega]; rfl
theorem Times_ev {a b : Int} (h1 : -9223372036854775808 ≤ a) (h2 : a ≤ 9223372036854775807) (h3 : -9223372036854775808 ≤ b) (h4 : b ≤ 9223372036854775807) :
    ∃ K, ∀ k, K ≤ k → sequiturref01_Times.f k a b = some (hiW (a * b), loW (a * b)) := by
  by_cases hb : b < 0
  · obtain ⟨K, ev⟩ := Times_l0 b.natAbs (-a) 0 (by omega)
    refine ⟨K + 1, fun k hk => ?_⟩
    obtain ⟨m, rfl⟩ : ∃ m, k = m + 1 := ⟨k - 1, by omega⟩
    unfold sequiturref01_Times.f
    rw [Of_eq h1 h2]
    simp only [Option.bind_some]
    rw [if_pos hb, Minus_eq]
    simp only [Option.bind_some, sequiturref01_Times.j0]
    rw [Far_eq h3 h4]
    simp only [Option.bind_some]
    have e : (0:Int) + (b.natAbs : Int) * -a = a * b := by
      rw [show (b.natAbs : Int) = -b by omega, Int.neg_mul_neg, Int.mul_comm]; omega
    rw [← e]
    have := ev m (by omega)
    rw [hiW0, loW0] at this
    exact this
  · obtain ⟨K, ev⟩ := Times_l0 b.natAbs a 0 (by omega)
    refine ⟨K + 1, fun k hk => ?_⟩
    obtain ⟨m, rfl⟩ : ∃ m, k = m + 1 := ⟨k - 1, by omega⟩
    unfold sequiturref01_Times.f
    rw [Of_eq h1 h2]
    simp only [Option.bind_some]
    rw [if_neg hb]
    simp only [sequiturref01_Times.j0]
    rw [Far_eq h3 h4]
    simp only [Option.bind_some]
    have e : (0:Int) + (b.natAbs : Int) * a = a * b := by
      rw [show (b.natAbs : Int) = b by omega, Int.mul_comm]; omega
    rw [← e]
    have := ev m (by omega)
    rw [hiW0, loW0] at this
    exact this
/-- How many times a variable stands in a form. -/
def coef : List S44 → Nat → Int
  | [], _ => 0
  | m :: l, v => (if m.f0 = (v : Int) then m.f1 else 0) + coef l v
theorem rightL_vars {l : List S44} (h : rightL (-1) l = true) : ∀ m ∈ l, 0 ≤ m.f0 ∧ m.f0 < 64 := fun m hm => by
  have := rightL_mem l (-1) h m hm; omega
theorem coef_none : ∀ (l : List S44) (last : Int), rightL last l = true → ∀ v : Nat, (v : Int) ≤ last → coef l v = 0 := by
  intro l
  induction l with
  | nil => intro _ _ _ _; rfl
  | cons m l ih =>
    intro last h v hv
    simp only [rightL, Bool.and_eq_true, decide_eq_true_eq] at h
    simp only [coef]
    rw [if_neg (by omega), ih m.f0 h.2 v (by omega)]; rfl
theorem coef_R64 : ∀ (l : List S44) (last : Int), rightL last l = true → M64 l → ∀ v : Nat, R64 (coef l v) := by
  intro l
  induction l with
  | nil => intro _ _ _ _; exact ⟨by simp [coef], by simp [coef]⟩
  | cons m l ih =>
    intro last h hM v
    have hr := h
    simp only [rightL, Bool.and_eq_true, decide_eq_true_eq] at h
    simp only [coef]
    by_cases e : m.f0 = (v : Int)
    · rw [if_pos e, coef_none l m.f0 h.2 v (by omega), Int.add_zero]; exact (hM m (List.mem_cons_self ..)).2
    · rw [if_neg e, Int.zero_add]; exact ih m.f0 h.2 (fun a ha => hM a (List.mem_cons_of_mem _ ha)) v
/-- The form of which the variables stand so many times. -/
def linOf (c : Nat → Int) (n : Nat) : List S44 := (List.range n).filterMap fun i => if c i = 0 then none else some ⟨(i : Int), c i⟩
theorem linOf_succ (c : Nat → Int) (n : Nat) : linOf c (n + 1) = linOf c n ++ (if c n = 0 then [] else [⟨(n : Int), c n⟩]) := by
  unfold linOf
  rw [List.range_succ, List.filterMap_append]
  congr 1
  simp only [List.filterMap_cons, List.filterMap_nil]
  split <;> simp_all
theorem linOf_mem (c : Nat → Int) : ∀ (n : Nat) (m : S44), m ∈ linOf c n → ∃ i : Nat, i < n ∧ m = ⟨(i : Int), c i⟩ ∧ c i ≠ 0 := by
  intro n
  induction n with
  | zero => intro m hm; cases hm
  | succ n ih =>
    intro m hm
    rw [linOf_succ] at hm
    rcases List.mem_append.1 hm with h | h
    · obtain ⟨i, h1, h2⟩ := ih m h; exact ⟨i, by omega, h2⟩
    · by_cases e : c n = 0
      · rw [if_pos e] at h; cases h
      · rw [if_neg e] at h; exact ⟨n, by omega, by simpa using h, e⟩
theorem linOf_len (c : Nat → Int) (n : Nat) : (linOf c n).length ≤ n := by
  have := List.length_filterMap_le (fun i : Nat => if c i = 0 then none else some (⟨(i : Int), c i⟩ : S44)) (List.range n)
  simpa [linOf] using this
theorem rightL_append : ∀ (a : List S44) (last : Int) (m : S44), rightL last a = true → (∀ x ∈ a, x.f0 < m.f0) → last < m.f0 → m.f0 < 64 → m.f1 ≠ 0 → rightL last (a ++ [m]) = true := by
  intro a
  induction a with
  | nil => intro last m _ _ h1 h2 h3; simp [rightL, h1, h2, h3]
  | cons b a ih =>
    intro last m h hlt h1 h2 h3
    simp only [rightL, Bool.and_eq_true, List.cons_append] at h ⊢
    exact ⟨h.1, ih b.f0 m h.2 (fun x hx => hlt x (List.mem_cons_of_mem _ hx)) (hlt b (List.mem_cons_self ..)) h2 h3⟩
theorem linOf_right (c : Nat → Int) : ∀ n, n ≤ 64 → rightL (-1) (linOf c n) = true := by
  intro n
  induction n with
  | zero => intro _; rfl
  | succ n ih =>
    intro hn
    rw [linOf_succ]
    by_cases e : c n = 0
    · rw [if_pos e, List.append_nil]; exact ih (by omega)
    · rw [if_neg e]
      refine rightL_append _ _ _ (ih (by omega)) (fun x hx => ?_) (by simp only; omega) (by simp only; omega) e
      obtain ⟨i, hi, rfl, _⟩ := linOf_mem c n x hx
      simp only; omega
theorem linOf_M64 (c : Nat → Int) (n : Nat) (hn : n ≤ 64) (h : ∀ v, v < n → R64 (c v)) : M64 (linOf c n) := by
  intro m hm
  obtain ⟨i, hi, rfl, _⟩ := linOf_mem c n m hm
  exact ⟨⟨by simp only; omega, by simp only; omega⟩, h i hi⟩
theorem linOf_congr {c d : Nat → Int} {n : Nat} (h : ∀ i, i < n → c i = d i) : linOf c n = linOf d n := by
  induction n with
  | zero => rfl
  | succ n ih => rw [linOf_succ, linOf_succ, ih (fun i hi => h i (by omega)), h n (by omega)]
/-- How many times a variable stands in a sum; and the sum's constant. -/
def csum : List S75 → Nat → Int
  | [], _ => 0
  | x :: l, v => coef x.f0.f1 v * x.f1 + csum l v
def kS : List S75 → Int
  | [] => 0
  | x :: l => x.f0.f0 * x.f1 + kS l
theorem ksum_eq (l : List S75) : ∀ s, l.foldl (fun s x => s + x.f0.f0 * x.f1) s = s + kS l := by
  induction l with
  | nil => intro s; simp [kS]
  | cons x l ih => intro s; simp only [List.foldl_cons, kS]; rw [ih]; omega
theorem addM_len (b : Int) (acc : List Int) (m : S44) : (addM b acc m).length = acc.length := by simp [addM]
theorem addMs_len (b : Int) (l : List S44) : ∀ acc : List Int, (l.foldl (addM b) acc).length = acc.length := by
  induction l with
  | nil => intro _; rfl
  | cons m l ih => intro acc; rw [List.foldl_cons, ih, addM_len]
theorem addM_get (b : Int) (acc : List Int) (m : S44) (v : Nat) (hv : v < acc.length) (h0 : 0 ≤ m.f0) : (addM b acc m).getD v 0 = acc.getD v 0 + (if m.f0 = (v : Int) then m.f1 else 0) * b := by
  unfold addM
  rw [List.getD_eq_getElem?_getD, List.getElem?_set, List.getD_eq_getElem?_getD, List.getD_eq_getElem?_getD]
  by_cases e : m.f0 = (v : Int)
  · have e2 : m.f0.toNat = v := by omega
    rw [if_pos e, if_pos e2, if_pos (by omega), e2]; rfl
  · rw [if_neg e, if_neg (by omega), Int.zero_mul, Int.add_zero]
theorem addMs_get (b : Int) (v : Nat) (l : List S44) : ∀ acc : List Int, v < acc.length → (∀ m ∈ l, 0 ≤ m.f0) → (l.foldl (addM b) acc).getD v 0 = acc.getD v 0 + coef l v * b := by
  induction l with
  | nil => intro acc _ _; simp [coef]
  | cons m l ih =>
    intro acc hv h
    rw [List.foldl_cons, ih _ (by rw [addM_len]; exact hv) (fun a ha => h a (List.mem_cons_of_mem _ ha)), addM_get b acc m v hv (h m (List.mem_cons_self ..))]
    simp only [coef, Int.add_mul]; omega
theorem accs_get (v : Nat) (l : List S75) : ∀ acc : List Int, v < acc.length → (∀ x ∈ l, ∀ m ∈ x.f0.f1, 0 ≤ m.f0) → (l.foldl addF acc).getD v 0 = acc.getD v 0 + csum l v := by
  induction l with
  | nil => intro acc _ _; simp [csum]
  | cons x l ih =>
    intro acc hv h
    rw [List.foldl_cons, ih _ (by unfold addF; rw [addMs_len]; exact hv) (fun a ha => h a (List.mem_cons_of_mem _ ha))]
    unfold addF
    rw [addMs_get x.f1 v x.f0.f1 acc hv (h x (List.mem_cons_self ..))]
    simp only [csum]; omega
/-- A sum's parts: forms that are right, and numbers in range. -/
def G67 (l : List S75) : Prop := ∀ x ∈ l, R64 x.f0.f0 ∧ rightL (-1) x.f0.f1 = true ∧ M64 x.f0.f1 ∧ R64 x.f1
theorem G67_tail {x : S75} {l : List S75} (h : G67 (x :: l)) : G67 l := fun a ha => h a (List.mem_cons_of_mem _ ha)
theorem csum_le (v : Nat) : ∀ l : List S75, G67 l → -(l.length * 85070591730234615865843651857942052864 : Int) ≤ csum l v ∧ csum l v ≤ l.length * 85070591730234615865843651857942052864 := by
  intro l
  induction l with
  | nil => intro _; simp [csum]
  | cons x l ih =>
    intro h
    have h1 := ih (G67_tail h)
    have hx := h x (List.mem_cons_self ..)
    have h2 := mul_R64 (coef_R64 x.f0.f1 (-1) hx.2.1 hx.2.2.1 v) hx.2.2.2
    simp only [csum, List.length_cons]
    omega
theorem kS_le : ∀ l : List S75, G67 l → -(l.length * 85070591730234615865843651857942052864 : Int) ≤ kS l ∧ kS l ≤ l.length * 85070591730234615865843651857942052864 := by
  intro l
  induction l with
  | nil => intro _; simp [kS]
  | cons x l ih =>
    intro h
    have h1 := ih (G67_tail h)
    have hx := h x (List.mem_cons_self ..)
    have h2 := mul_R64 hx.1 hx.2.2.2
    simp only [kS, List.length_cons]
    omega
def fitsC (c : Nat → Int) : Bool := (List.range 64).all fun v => decide (R64 (c v))
theorem fitsC_R64 {c : Nat → Int} (h : fitsC c = true) : ∀ v, v < 64 → R64 (c v) := by
  intro v hv
  have := List.all_eq_true.1 h v (List.mem_range.2 hv)
  simpa using this
theorem filterMap_congr_ {α β : Type} (l : List α) (f g : α → Option β) (h : ∀ a ∈ l, f a = g a) : l.filterMap f = l.filterMap g := by
  induction l with
  | nil => rfl
  | cons a l ih =>
    rw [List.filterMap_cons, List.filterMap_cons, h a (List.mem_cons_self ..), ih (fun b hb => h b (List.mem_cons_of_mem _ hb))]
/-- What a sum comes to. -/
def sumR (l : List S75) : Int × List S44 × Int :=
  if R64 (kS l) ∧ fitsC (csum l) = true then (kS l, linOf (csum l) 64, 0) else (0, [], 5)
theorem fit64_R {n : Int} (h : R64 n) : fit64 n = (n, true) := by
  have h' : -9223372036854775808 ≤ n ∧ n ≤ 9223372036854775807 := h
  unfold fit64; rw [if_pos h']
theorem fit64_N {n : Int} (h : ¬ R64 n) : fit64 n = (0, false) := by
  have h' : ¬ (-9223372036854775808 ≤ n ∧ n ≤ 9223372036854775807) := h
  unfold fit64; rw [if_neg h']
theorem fit64_2 (n : Int) : (fit64 n).2 = decide (R64 n) := by
  by_cases h : R64 n
  · rw [fit64_R h, decide_eq_true h]
  · rw [fit64_N h, decide_eq_false h]
theorem sum_eq (l : List S75) (h : G67 l) (hl : l.length ≤ 9223372036854775807) : lin_sum.f l = some (sumR l) := by
  have hg : l.all goodF = true := by
    rw [List.all_eq_true]
    intro x hx
    obtain ⟨a, b, c, d⟩ := h x hx
    simp only [goodF, Bool.and_eq_true, List.all_eq_true]
    refine ⟨⟨in64_of a, in64_of d⟩, fun m hm => ?_⟩
    have := rightL_vars b m hm
    simp only [goodM, Bool.and_eq_true, decide_eq_true_eq]
    exact ⟨this, in64_of (c m hm).2⟩
  have hacc : ∀ v, v < 64 → (accs l).getD v 0 = csum l v := by
    intro v hv
    unfold accs
    rw [accs_get v l _ (by simpa using hv) (fun x hx m hm => (rightL_vars (h x hx).2.1 m hm).1)]
    have h0 : (List.replicate 64 (0:Int)).getD v 0 = 0 := by rw [List.getD_eq_getElem?_getD, List.getElem?_replicate, if_pos hv]; rfl
    rw [h0]; omega
  have hW : ∀ v, v < 64 → fit192 ((accs l).getD v 0) = fit64 (csum l v) := by
    intro v hv
    rw [hacc v hv]
    unfold fit192
    have := csum_le v l h
    rw [wrap192_id (by omega) (by omega)]
  have hK : fit192 (ksum l) = fit64 (kS l) := by
    have e : ksum l = kS l := by unfold ksum; rw [ksum_eq]; omega
    rw [e]
    unfold fit192
    have := kS_le l h
    rw [wrap192_id (by omega) (by omega)]
  have hall : ((List.range 64).all fun i => (fit192 ((accs l).getD i 0)).2) = fitsC (csum l) := by
    unfold fitsC
    rw [Bool.eq_iff_iff, List.all_eq_true, List.all_eq_true]
    constructor
    · intro hh v hv
      have := hh v hv
      rwa [hW v (List.mem_range.1 hv), fit64_2] at this
    · intro hh v hv
      have := hh v hv
      rwa [hW v (List.mem_range.1 hv), fit64_2]
  unfold lin_sum.f sumR
  rw [if_pos hg, hK, fit64_2]
  unfold sumOk
  rw [hall]
  by_cases e : R64 (kS l) ∧ fitsC (csum l) = true
  · rw [if_pos e, if_pos (by simp [e.1, e.2]), fit64_R e.1]
    congr 3
    have hc := fitsC_R64 e.2
    unfold sumOut linOf
    refine filterMap_congr_ _ _ _ fun i hi => ?_
    rw [hW i (List.mem_range.1 hi), fit64_R (hc i (List.mem_range.1 hi))]
  · rw [if_neg e, if_neg (by simp only [Bool.and_eq_true, decide_eq_true_eq]; exact e)]
/-- The forms, each with its number of times. -/
def zipS (l0 : List S41) (l1 : List Int) : List S75 := List.zipWith (fun q b => ⟨q, b⟩) l0 l1
theorem zipS_G67 {l0 : List S41} {l1 : List Int} (h0 : ∀ q ∈ l0, R64 q.f0 ∧ M64 q.f1) (hr : l0.all (fun q => rightL (-1) q.f1) = true) (h1 : I64 l1) : G67 (zipS l0 l1) := by
  intro x hx
  obtain ⟨i, hi, he⟩ := List.getElem_of_mem hx
  unfold zipS at he hi
  rw [List.getElem_zipWith] at he
  subst he
  simp only [List.length_zipWith] at hi
  have a0 : l0[i]'(by omega) ∈ l0 := List.getElem_mem _
  have a1 : l1[i]'(by omega) ∈ l1 := List.getElem_mem _
  exact ⟨(h0 _ a0).1, List.all_eq_true.1 hr _ a0, (h0 _ a0).2, h1 _ a1⟩
def sumD (l0 : List S41) (l1 : List Int) : Int × List S44 × Int :=
  if l0.all (fun q => rightL (-1) q.f1) = true ∧ l0.length = l1.length then sumR (zipS l0 l1) else (0, [], 1)
theorem linSum_l0 (l0 : List S41) (l1 : List Int) (hG : G67 (zipS l0 l1)) (he : l0.length = l1.length) (hlen : l0.length ≤ 1000000) : ∀ (d i : Nat) (acc : List S75), l0.length - i = d → i ≤ l0.length → acc = (zipS l0 l1).take i →
    Ev (fun k => lin_Sum.l0 k l1 acc l0 (l0.length:Int) i) (sumR (zipS l0 l1)) := by
  have hzl : (zipS l0 l1).length = l0.length := by simp [zipS, he]
  intro d
  induction d with
  | zero =>
    intro i acc h1 h2 hacc
    refine Ev.succ (Ev.now fun k => ?_)
    simp only [lin_Sum.l0]
    rw [if_neg (by omega), hacc, List.take_of_length_le (by omega), sum_eq _ hG (by omega)]; rfl
  | succ d ih =>
    intro i acc h1 h2 hacc
    have hi : i < l0.length := by omega
    refine Ev.succ (Ev.of (ih (i+1) (acc ++ [⟨l0[i], l1[i]'(by omega)⟩]) (by omega) (by omega) ?_) fun k => ?_)
    · rw [hacc, List.take_succ_eq_append_getElem (by omega)]
      simp [zipS]
    · have hal : acc.length ≤ 1000000 := by rw [hacc]; simp; omega
      simp only [lin_Sum.l0]
      rw [if_pos (by omega), if_pos (by omega), if_pos (by omega), if_pos (by omega), if_pos (by omega), rdQ_at l0 i hi, rd_at l1 i (by omega), w64 (by omega) (by omega)]; rfl
theorem linSum_ev (l0 : List S41) (l1 : List Int) (h0 : ∀ q ∈ l0, R64 q.f0 ∧ M64 q.f1 ∧ q.f1.length ≤ 9223372036854775807) (h1 : I64 l1) (hlen : l0.length ≤ 1000000) :
    Ev (fun k => lin_Sum.f k l0 l1) (sumD l0 l1) := by
  refine Ev.bind (linright_ev l0 (by omega) (fun q hq => (h0 q hq).2.2)) ?_
  unfold sumD
  by_cases e : l0.all (fun q => rightL (-1) q.f1) = true
  · refine Ev.pos e ?_
    by_cases e2 : l0.length = l1.length
    · rw [if_pos ⟨e, e2⟩]
      refine Ev.succ (Ev.of (linSum_l0 l0 l1 (zipS_G67 (fun q hq => ⟨(h0 q hq).1, (h0 q hq).2.1⟩) e h1) e2 hlen _ 0 [] rfl (by omega) (by simp)) fun k => ?_)
      simp only [lin_Sum.j0]
      rw [if_neg (by simp; omega)]; rfl
    · rw [if_neg (fun h => e2 h.2)]
      refine Ev.succ (Ev.now fun k => ?_)
      simp only [lin_Sum.j0]
      rw [if_pos (by simp; omega)]
  · rw [if_neg (fun h => e h.1)]
    refine Ev.neg e (Ev.succ (Ev.now fun k => ?_))
    simp only [lin_Sum.j0, if_true]
theorem sumR_fine (l : List S75) : R64 (sumR l).1 ∧ M64 (sumR l).2.1 ∧ (sumR l).2.1.length ≤ 64 ∧ rightL (-1) (sumR l).2.1 = true := by
  unfold sumR
  by_cases e : R64 (kS l) ∧ fitsC (csum l) = true
  · rw [if_pos e]
    exact ⟨e.1, linOf_M64 _ 64 (Nat.le_refl _) (fitsC_R64 e.2), linOf_len _ 64, linOf_right _ 64 (Nat.le_refl _)⟩
  · rw [if_neg e]
    refine ⟨⟨by simp, by simp⟩, ?_, by simp, rfl⟩
    intro m hm
    cases hm
theorem sumD_fine (l0 : List S41) (l1 : List Int) : R64 (sumD l0 l1).1 ∧ M64 (sumD l0 l1).2.1 ∧ (sumD l0 l1).2.1.length ≤ 64 ∧ rightL (-1) (sumD l0 l1).2.1 = true := by
  unfold sumD
  split
  · exact sumR_fine _
  · refine ⟨⟨by simp, by simp⟩, ?_, by simp, rfl⟩
    intro m hm
    cases hm
theorem sumD_right {l0 : List S41} {l1 : List Int} (hr : l0.all (fun q => rightL (-1) q.f1) = true) (he : l0.length = l1.length) : sumD l0 l1 = sumR (zipS l0 l1) := by
  unfold sumD; rw [if_pos ⟨hr, he⟩]
theorem form_l0 (K : Int) (l : List S44) (hl : l.length ≤ 9223372036854775807) : ∀ (d i : Nat) (last : Int), l.length - i = d → i ≤ l.length → -1 ≤ last → (i = 0 → last = -1) → (∀ h : i - 1 < l.length, 0 < i → last = l[i-1].f0) →
    Ev (fun k => sequiturref28_Form.l0 k i K l) (rightL last (l.drop i)) := by
  intro d
  induction d with
  | zero =>
    intro i last h1 h2 h3 h4 h5
    refine Ev.succ (Ev.now fun k => ?_)
    simp only [sequiturref28_Form.l0]
    rw [if_neg (by omega), List.drop_eq_nil_of_le (by omega)]; rfl
  | succ d ih =>
    intro i last h1 h2 h3 h4 h5
    have hi : i < l.length := by omega
    rw [List.drop_eq_getElem_cons hi]
    have hs : ∀ k, sequiturref28_Form.l0 (k+1) i K l = if l[i].f0 < 0 then some false else if l[i].f0 ≥ 64 then some false else if l[i].f1 = 0 then some false else if l[i].f0 ≤ last then some false else sequiturref28_Form.l0 k ((i+1 : Nat) : Int) K l := by
      intro k
      simp only [sequiturref28_Form.l0]
      rw [if_pos (by omega), if_pos (by omega), rdM_at l i hi]
      by_cases e1 : l[i].f0 < 0
      · rw [if_pos e1, if_pos e1]
      rw [if_neg e1, if_neg e1]
      by_cases e2 : l[i].f0 ≥ 64
      · rw [if_pos e2, if_pos e2]
      rw [if_neg e2, if_neg e2]
      by_cases e3 : l[i].f1 = 0
      · rw [if_pos e3, if_pos e3]
      rw [if_neg e3, if_neg e3]
      rw [show wrap64 ((i:Int) + 1) = ((i+1 : Nat) : Int) by rw [w64 (by omega) (by omega)]; omega]
      by_cases e4 : i = 0
      · subst e4
        have := h4 rfl
        rw [if_neg (by omega), if_neg (by omega)]
      · have e5 := h5 (by omega) (by omega)
        rw [if_pos (by omega), w64 (by omega) (by omega), if_pos (by omega), if_pos (by omega), show ((i:Int) - 1) = ((i - 1 : Nat) : Int) by omega, rdM_at l (i-1) (by omega), ← e5]
    by_cases e : last < l[i].f0 ∧ l[i].f0 < 64 ∧ l[i].f1 ≠ 0
    · obtain ⟨e1, e2, e3⟩ := e
      refine Ev.succ (Ev.of (ih (i+1) l[i].f0 (by omega) (by omega) (by omega) (by omega) (fun _ _ => rfl)) fun k => ?_) |>.val ?_
      · rw [hs k, if_neg (by omega), if_neg (by omega), if_neg e3, if_neg (by omega)]
      · simp only [rightL, decide_eq_true e1, decide_eq_true e2, decide_eq_true e3, Bool.true_and]
    · refine Ev.succ (Ev.now fun k => ?_)
      have hr : rightL last (l[i] :: l.drop (i+1)) = false := by
        simp only [rightL, Bool.and_eq_false_iff, decide_eq_false_iff_not]
        omega
      rw [hr, hs k]
      by_cases e1 : l[i].f0 < 0
      · rw [if_pos e1]
      by_cases e2 : l[i].f0 ≥ 64
      · rw [if_neg e1, if_pos e2]
      by_cases e3 : l[i].f1 = 0
      · rw [if_neg e1, if_neg e2, if_pos e3]
      · rw [if_neg e1, if_neg e2, if_neg e3, if_pos (by omega)]
theorem Form_ev (K : Int) (l : List S44) (hl : l.length ≤ 9223372036854775807) : Ev (fun k => sequiturref28_Form.f k K l) (rightL (-1) l) := by
  have := form_l0 K l hl _ 0 (-1) rfl (by omega) (by omega) (fun _ => rfl) (fun _ h => by omega)
  exact this
/-- The reference's totals, of a number of 192 bits. -/
def tHi (s : Int) : Int := hiW (s / 18446744073709551616)
def tMid (s : Int) : Int := loW (s / 18446744073709551616)
def tLow (s : Int) : Int := s % 18446744073709551616
theorem hiW_small {p : Int} (h1 : -85070591730234615865843651857942052864 ≤ p) (h2 : p ≤ 85070591730234615865843651857942052864) : hiW p = p / 18446744073709551616 := by
  unfold hiW; exact w64 (by omega) (by omega)
theorem More_ev (s : Int) {a b : Int} (ha : R64 a) (hb : R64 b) : Ev (fun k => sequiturref28_More.f k (tHi s) (tMid s) (tLow s) a b) (tHi (s + a * b), tMid (s + a * b), tLow (s + a * b)) := by
  have hp := mul_R64 ha hb
  have ht : Ev (fun k => sequiturref01_Times.f k a b) (hiW (a * b), loW (a * b)) := Times_ev ha.1 ha.2 hb.1 hb.2
  refine Ev.bind ht (Ev.now fun k => ?_)
  generalize a * b = p at *
  simp only
  rw [hiW_small hp.1 hp.2, Of_eq (by omega) (by omega)]
  simp only [Option.bind_some]
  unfold tHi tMid
  rw [Plus_eq]
  simp only [Option.bind_some, u64w]
  have e1 : (tLow s + loW p) % 18446744073709551616 = tLow (s + p) := by unfold tLow loW; omega
  rw [e1]
  by_cases c : tLow (s + p) < tLow s
  · rw [if_pos c, Of_eq (by omega) (by omega)]
    simp only [Option.bind_some]
    rw [Plus_eq]
    simp only [Option.bind_some]
    rw [show s / 18446744073709551616 + p / 18446744073709551616 + 1 = (s + p) / 18446744073709551616 by unfold tLow at c; omega]
  · rw [if_neg c]
    rw [show s / 18446744073709551616 + p / 18446744073709551616 = (s + p) / 18446744073709551616 by unfold tLow at c; omega]
theorem tot0 : tHi 0 = 0 ∧ tMid 0 = 0 ∧ tLow 0 = 0 := ⟨by unfold tHi hiW wrap64; omega, by unfold tMid loW; omega, by unfold tLow; omega⟩
def fitR (s : Int) : Int × Bool := if R64 s then (s, true) else (0, false)
theorem fitI_R (s : Int) : fitI s = fitR s := rfl
theorem TFits_eq {s : Int} (h1 : -3138550867693340381917894711603833208051177722232017256448 ≤ s) (h2 : s < 3138550867693340381917894711603833208051177722232017256448) : sequiturref28_Fits.f (tHi s) (tMid s) (tLow s) = some (fitR s) := by
  unfold sequiturref28_Fits.f tHi tMid
  rw [Fits_eq _ (by omega) (by omega), fitI_R]
  simp only [Option.bind_some]
  unfold fitR
  by_cases e : R64 (s / 18446744073709551616)
  · rw [if_pos e]
    simp only [if_true]
    have e1 := e.1
    have e2 := e.2
    have hh : s / 18446744073709551616 = hiW s := by unfold hiW; rw [w64 (by omega) (by omega)]
    rw [hh, show tLow s = loW s from rfl, Fits_eq s (by omega) (by omega), fitI_R]
    rfl
  · rw [if_neg e]
    simp only [Bool.false_eq_true, if_false]
    rw [if_neg (fun h : R64 s => e (by have := h.1; have := h.2; exact ⟨by omega, by omega⟩))]
theorem by_l0 (K : Int) (l : List S44) (v : Nat) (hv : v ≤ 1000000) (hlen : l.length ≤ 1000000) : ∀ (n i : Nat) (last : Int), l.length - i = n → i ≤ l.length → rightL last (l.drop i) = true →
    Ev (fun k => sequiturref28_By.l0 k v i K l) (coef (l.drop i) v) := by
  intro n
  induction n with
  | zero =>
    intro i last h1 h2 _
    refine Ev.succ (Ev.now fun k => ?_)
    simp only [sequiturref28_By.l0]
    rw [if_neg (by omega), List.drop_eq_nil_of_le (by omega)]; rfl
  | succ n ih =>
    intro i last h1 h2 hr
    have hi : i < l.length := by omega
    rw [List.drop_eq_getElem_cons hi] at hr ⊢
    have hr2 := hr
    simp only [rightL, Bool.and_eq_true, decide_eq_true_eq] at hr2
    by_cases e : l[i].f0 = (v : Int)
    · refine Ev.succ (Ev.now fun k => ?_)
      simp only [sequiturref28_By.l0, coef]
      rw [if_pos (by omega), if_pos (by omega), rdM_at l i hi, if_pos e, if_pos e, coef_none (l.drop (i+1)) l[i].f0 hr2.2 v (by omega), Int.add_zero]
    · refine (Ev.succ (Ev.of (ih (i+1) l[i].f0 (by omega) (by omega) hr2.2) fun k => ?_)).val ?_
      · simp only [sequiturref28_By.l0]
        rw [if_pos (by omega), if_pos (by omega), rdM_at l i hi, if_neg e, w64 (by omega) (by omega)]; rfl
      · simp only [coef]; rw [if_neg e, Int.zero_add]
theorem By_ev (K : Int) (l : List S44) (v : Nat) (hv : v ≤ 1000000) (hr : rightL (-1) l = true) : Ev (fun k => sequiturref28_By.f k K l v) (coef l v) := by
  have hl := rightL_len l (-1) (by omega) hr
  have := by_l0 K l v hv (by omega) _ 0 (-1) rfl (by omega) (by rw [List.drop_zero]; exact hr)
  exact this
theorem zipS_cons (q : S41) (l0 : List S41) (b : Int) (l1 : List Int) : zipS (q :: l0) (b :: l1) = ⟨q, b⟩ :: zipS l0 l1 := rfl
theorem kS_zip_le (l0 : List S41) (l1 : List Int) (i : Nat) (h : G67 (zipS l0 l1)) : G67 (zipS (l0.drop i) (l1.drop i)) := by
  intro x hx
  refine h x ?_
  unfold zipS at hx ⊢
  rw [← List.drop_zipWith] at hx
  exact List.mem_of_mem_drop hx
/-- The reference's sum of forms. -/
theorem refLin_l2 (l0 : List S41) (l1 : List Int) (hG : G67 (zipS l0 l1)) (he : l0.length = l1.length) (hlen : l0.length ≤ 1000000) (ok : Bool) (v : Nat) (hv : v < 64) (K : Int) (L : List S44) (hL : L.length ≤ 64) (R : Int × List S44 × Int)
    (H : Ev (fun k => sequiturref28_Lin.l1 k l0 l1 (ok && (fitR (csum (zipS l0 l1) v)).2) ((v + 1 : Nat) : Int) K (if (fitR (csum (zipS l0 l1) v)).1 = 0 then L else L ++ [⟨(v:Int), (fitR (csum (zipS l0 l1) v)).1⟩])) R) :
    ∀ (n i : Nat) (s : Int), l0.length - i = n → i ≤ l0.length → s + csum (zipS (l0.drop i) (l1.drop i)) v = csum (zipS l0 l1) v →
    Ev (fun k => sequiturref28_Lin.l2 k l0 l1 ok v i K L (tHi s) (tMid s) (tLow s)) R := by
  intro n
  induction n with
  | zero =>
    intro i s h1 h2 hs
    rw [List.drop_eq_nil_of_le (by omega), show zipS [] (l1.drop i) = [] from rfl] at hs
    simp only [csum, Int.add_zero] at hs
    have hb := csum_le v (zipS l0 l1) hG
    have hzl : (zipS l0 l1).length ≤ 1000000 := by unfold zipS; rw [List.length_zipWith]; omega
    have hf : sequiturref28_Fits.f (tHi s) (tMid s) (tLow s) = some (fitR s) := TFits_eq (by omega) (by omega)
    rw [← hs] at H
    refine Ev.succ (Ev.of H fun k => ?_)
    simp only [sequiturref28_Lin.l2]
    rw [if_neg (by omega), hf, show wrap64 ((v:Int) + 1) = ((v+1 : Nat) : Int) by rw [w64 (by omega) (by omega)]; omega]
    simp only [Option.bind_some]
    have hx : L.length < 8796093022208 := by omega
    cases ok
    · simp only [Bool.false_eq_true, if_false, Bool.false_and]
      by_cases z : (fitR s).1 = 0
      · rw [if_pos z, if_pos z]
      · rw [if_neg z, if_neg z, if_pos hx]
    · simp only [if_true, Bool.true_and]
      by_cases z : (fitR s).1 = 0
      · rw [if_pos z, if_pos z]
      · rw [if_neg z, if_neg z, if_pos hx]
  | succ n ih =>
    intro i s h1 h2 hs
    have hi : i < l0.length := by omega
    have hi1 : i < l1.length := by omega
    rw [List.drop_eq_getElem_cons hi, List.drop_eq_getElem_cons hi1, zipS_cons] at hs
    have hg := kS_zip_le l0 l1 i hG
    rw [List.drop_eq_getElem_cons hi, List.drop_eq_getElem_cons hi1, zipS_cons] at hg
    have hx := hg _ (List.mem_cons_self ..)
    have hc := coef_R64 l0[i].f1 (-1) hx.2.1 hx.2.2.1 v
    refine Ev.succ (Ev.of (Ev.bind (g := fun k t => (sequiturref28_More.f k (tHi s) (tMid s) (tLow s) t l1[i]).bind fun bt => sequiturref28_Lin.l2 k l0 l1 ok v ((i+1 : Nat) : Int) K L bt.1 bt.2.1 bt.2.2) (By_ev l0[i].f0 l0[i].f1 v (by omega) hx.2.1) (Ev.bind (More_ev s hc hx.2.2.2) (ih (i+1) (s + coef l0[i].f1 v * l1[i]) (by omega) (by omega) ?_))) fun k => ?_)
    · simp only [csum] at hs; omega
    · simp only [sequiturref28_Lin.l2]
      rw [if_pos (by omega), if_pos (by omega), rdQ_at l0 i hi, show wrap64 ((i:Int) + 1) = ((i+1 : Nat) : Int) by rw [w64 (by omega) (by omega)]; omega, rd_at l1 i hi1]
      congr 1
      funext t
      rw [if_pos (by omega)]
theorem refLin_l1 (l0 : List S41) (l1 : List Int) (hG : G67 (zipS l0 l1)) (he : l0.length = l1.length) (hlen : l0.length ≤ 1000000) (K : Int) (ok0 : Bool) : ∀ (n v : Nat) (ok : Bool) (L : List S44), 64 - v = n → v ≤ 64 → L = linOf (fun v => (fitR (csum (zipS l0 l1) v)).1) v → ok = (ok0 && (List.range v).all fun v => (fitR (csum (zipS l0 l1) v)).2) →
    Ev (fun k => sequiturref28_Lin.l1 k l0 l1 ok v K L) (if (ok0 && (List.range 64).all fun v => (fitR (csum (zipS l0 l1) v)).2) = true then (K, linOf (fun v => (fitR (csum (zipS l0 l1) v)).1) 64, 0) else (0, [], 5)) := by
  intro n
  induction n with
  | zero =>
    intro v ok L h1 h2 hL hok
    obtain rfl : v = 64 := by omega
    refine Ev.succ ?_
    simp only [sequiturref28_Lin.l1]
    refine Ev.neg (by omega) ?_
    subst hL hok
    exact Ev.now fun _ => by split <;> rfl
  | succ n ih =>
    intro v ok L h1 h2 hL hok
    have hLl : L.length ≤ 64 := by rw [hL]; have := linOf_len (fun v => (fitR (csum (zipS l0 l1) v)).1) v; omega
    refine Ev.succ ?_
    simp only [sequiturref28_Lin.l1]
    refine Ev.pos (by omega) ?_
    have h0 := refLin_l2 l0 l1 hG he hlen ok v (by omega) K L hLl _ (ih (v+1) _ _ (by omega) (by omega) (by
      rw [linOf_succ, ← hL]
      split
      · rw [List.append_nil]
      · rfl) (by rw [hok, List.range_succ, List.all_append, ← Bool.and_assoc]; simp only [List.all_cons, List.all_nil, Bool.and_true])) _ 0 0 rfl (by omega) (by rw [List.drop_zero, List.drop_zero]; omega)
    rw [tot0.1, tot0.2.1, tot0.2.2] at h0
    exact h0
theorem refLin_l0 (l0 : List S41) (l1 : List Int) (hG : G67 (zipS l0 l1)) (he : l0.length = l1.length) (hlen : l0.length ≤ 1000000) (R : Int × List S44 × Int)
    (H : Ev (fun k => sequiturref28_Lin.l1 k l0 l1 (fitR (kS (zipS l0 l1))).2 0 (fitR (kS (zipS l0 l1))).1 []) R) :
    ∀ (n i : Nat) (s : Int), l0.length - i = n → i ≤ l0.length → s + kS (zipS (l0.drop i) (l1.drop i)) = kS (zipS l0 l1) →
    Ev (fun k => sequiturref28_Lin.l0 k l0 l1 i (tHi s) (tMid s) (tLow s)) R := by
  intro n
  induction n with
  | zero =>
    intro i s h1 h2 hs
    rw [List.drop_eq_nil_of_le (by omega), show zipS [] (l1.drop i) = [] from rfl] at hs
    simp only [kS, Int.add_zero] at hs
    have hb := kS_le (zipS l0 l1) hG
    have hzl : (zipS l0 l1).length ≤ 1000000 := by unfold zipS; rw [List.length_zipWith]; omega
    have hf : sequiturref28_Fits.f (tHi s) (tMid s) (tLow s) = some (fitR s) := TFits_eq (by omega) (by omega)
    rw [← hs] at H
    refine Ev.succ (Ev.of H fun k => ?_)
    simp only [sequiturref28_Lin.l0]
    rw [if_neg (by omega), hf]; rfl
  | succ n ih =>
    intro i s h1 h2 hs
    have hi : i < l0.length := by omega
    have hi1 : i < l1.length := by omega
    rw [List.drop_eq_getElem_cons hi, List.drop_eq_getElem_cons hi1, zipS_cons] at hs
    have hg := kS_zip_le l0 l1 i hG
    rw [List.drop_eq_getElem_cons hi, List.drop_eq_getElem_cons hi1, zipS_cons] at hg
    have hx := hg _ (List.mem_cons_self ..)
    refine Ev.succ (Ev.of (Ev.bind (g := fun k bt => sequiturref28_Lin.l0 k l0 l1 ((i+1 : Nat) : Int) bt.1 bt.2.1 bt.2.2) (More_ev s hx.1 hx.2.2.2) (ih (i+1) (s + l0[i].f0 * l1[i]) (by omega) (by omega) ?_)) fun k => ?_)
    · simp only [kS] at hs; omega
    · simp only [sequiturref28_Lin.l0]
      rw [if_pos (by omega), if_pos (by omega), if_pos (by omega), rdQ_at l0 i hi, rd_at l1 i hi1, w64 (by omega) (by omega)]; rfl
theorem fitR_2 (n : Int) : (fitR n).2 = decide (R64 n) := by
  unfold fitR; by_cases h : R64 n
  · rw [if_pos h, decide_eq_true h]
  · rw [if_neg h, decide_eq_false h]
theorem refLin_ev (l0 : List S41) (l1 : List Int) (hG : G67 (zipS l0 l1)) (he : l0.length = l1.length) (hlen : l0.length ≤ 1000000) : Ev (fun k => sequiturref28_Lin.f k l0 l1) (sumR (zipS l0 l1)) := by
  have h1 := refLin_l1 l0 l1 hG he hlen (fitR (kS (zipS l0 l1))).1 (fitR (kS (zipS l0 l1))).2 _ 0 (fitR (kS (zipS l0 l1))).2 [] rfl (by omega) rfl (by simp)
  have h0 := refLin_l0 l0 l1 hG he hlen _ h1 _ 0 0 rfl (by omega) (by rw [List.drop_zero, List.drop_zero]; omega)
  rw [tot0.1, tot0.2.1, tot0.2.2] at h0
  refine Ev.val (v := _) h0 ?_
  have hall : ((List.range 64).all fun v => (fitR (csum (zipS l0 l1) v)).2) = fitsC (csum (zipS l0 l1)) := by
    unfold fitsC
    congr 1
    funext v
    exact fitR_2 _
  rw [hall, fitR_2]
  unfold sumR
  by_cases e : R64 (kS (zipS l0 l1)) ∧ fitsC (csum (zipS l0 l1)) = true
  · rw [if_pos e, if_pos (by simp [e.1, e.2])]
    have hc := fitsC_R64 e.2
    have a : (fitR (kS (zipS l0 l1))).1 = kS (zipS l0 l1) := by unfold fitR; rw [if_pos e.1]
    rw [a, linOf_congr (d := csum (zipS l0 l1)) (fun i hi => by unfold fitR; rw [if_pos (hc i hi)])]
  · rw [if_neg e, if_neg (by simp only [Bool.and_eq_true, decide_eq_true_eq]; exact e)]
def fewD (l : List S41) : Bool := if (l.length : Int) > 80 then false else l.all fun q => decide (q.f1.length ≤ 80)
theorem few_l0 (l : List S41) (hlen : l.length ≤ 1000000) : ∀ (n i : Nat), l.length - i = n → i ≤ l.length → Ev (fun k => sequiturlaw29_few.l0 k l (l.length : Int) i) ((l.drop i).all fun q => decide (q.f1.length ≤ 80)) := by
  intro n
  induction n with
  | zero =>
    intro i h1 h2
    refine Ev.succ (Ev.now fun k => ?_)
    simp only [sequiturlaw29_few.l0]
    rw [if_neg (by omega), List.drop_eq_nil_of_le (by omega)]; rfl
  | succ n ih =>
    intro i h1 h2
    have hi : i < l.length := by omega
    rw [List.drop_eq_getElem_cons hi, List.all_cons]
    refine Ev.succ ?_
    simp only [sequiturlaw29_few.l0]
    rw [rdQ_at l i hi]
    refine Ev.pos (by omega) (Ev.pos (by omega) (Ev.pos (by omega) ?_))
    by_cases e : l[i].f1.length ≤ 80
    · refine Ev.neg (by omega) (((ih (i+1) (by omega) (by omega)).of fun k => ?_).val ?_)
      · rw [w64 (by omega) (by omega)]; rfl
      · rw [decide_eq_true e, Bool.true_and]
    · refine Ev.pos (by omega) (Ev.now fun _ => ?_)
      rw [decide_eq_false e]; rfl
theorem few_ev (l : List S41) : Ev (fun k => sequiturlaw29_few.f k l) (fewD l) := by
  unfold fewD
  by_cases e : (l.length : Int) > 80
  · rw [if_pos e]
    exact Ev.pos e (Ev.now fun _ => rfl)
  · rw [if_neg e]
    refine Ev.neg e ((few_l0 l (by omega) _ 0 rfl (by omega)).val ?_)
    rw [List.drop_zero]
theorem few_is {l : List S41} (h : fewD l = true) : l.length ≤ 80 ∧ ∀ q ∈ l, q.f1.length ≤ 80 := by
  unfold fewD at h
  split at h
  · cases h
  · rename_i e
    exact ⟨by omega, fun q hq => by simpa using List.all_eq_true.1 h q hq⟩
theorem alive29_ev : Ev (fun k => sequiturlaw29_alive.f k) true := Ev.mono 200 sequiturlaw29_alive.mono (by decide +kernel)
/-- What the sum's numbers tell, mod div. -/
def modD (d : Int) (K : Int) (L : List S44) : Int := if L.all (fun m => decide (Int.tmod m.f1 d = 0)) = true then (if Int.tmod K d = 0 then 30 else 0) else 30
def chkD (l0 : List S41) (l1 : List Int) (d : Int) : Int := if (l0.length : Int) = (l1.length : Int) ∧ ¬ d < 2 then (if (sumD l0 l1).2.2 = 0 then modD d (sumD l0 l1).1 (sumD l0 l1).2.1 else (sumD l0 l1).2.2) else 1
theorem chk_l0 (d : Int) (hd : ¬ d < 2) (K : Int) (L : List S44) (hL : L.length ≤ 64) : ∀ (n i : Nat), L.length - i = n → i ≤ L.length → Ev (fun k => euclid_Check.l0 k d L (L.length : Int) i K L) (modD d K (L.drop i)) := by
  intro n
  induction n with
  | zero =>
    intro i h1 h2
    refine Ev.succ ?_
    simp only [euclid_Check.l0]
    rw [List.drop_eq_nil_of_le (by omega)]
    refine Ev.neg (by omega) (Ev.neg (by omega) ?_)
    unfold modD
    rw [List.all_nil, if_pos rfl]
    exact Ev.now fun k => by split <;> rfl
  | succ n ih =>
    intro i h1 h2
    have hi : i < L.length := by omega
    refine Ev.succ ?_
    simp only [euclid_Check.l0]
    rw [rdM_at L i hi]
    refine Ev.pos (by omega) (Ev.pos (by omega) (Ev.pos (by omega) (Ev.neg (by omega) ?_)))
    by_cases e : Int.tmod L[i].f1 d = 0
    · refine Ev.pos e (((ih (i+1) (by omega) (by omega)).of fun k => ?_).val ?_)
      · rw [w64 (by omega) (by omega)]; rfl
      · unfold modD; rw [List.drop_eq_getElem_cons hi, List.all_cons, decide_eq_true e, Bool.true_and]
    · refine Ev.neg e (Ev.now fun _ => ?_)
      unfold modD
      rw [List.drop_eq_getElem_cons hi, List.all_cons, decide_eq_false e, Bool.false_and]; rfl
theorem Check_ev (l0 : List S41) (l1 : List Int) (d : Int) (h0 : ∀ q ∈ l0, R64 q.f0 ∧ M64 q.f1 ∧ q.f1.length ≤ 9223372036854775807) (h1 : I64 l1) (hlen : l0.length ≤ 1000000) :
    Ev (fun k => euclid_Check.f k l0 l1 d) (chkD l0 l1 d) := by
  have hj : Ev (fun k => euclid_Check.j0 k l0 l1 d true) 1 := by
    refine Ev.succ ?_
    simp only [euclid_Check.j0]
    exact Ev.pos trivial (Ev.now fun _ => rfl)
  unfold chkD
  by_cases he : (l0.length : Int) = (l1.length : Int)
  · refine Ev.pos he ?_
    by_cases hd : d < 2
    · rw [if_neg (fun h => h.2 hd), decide_eq_true hd]; exact hj
    · rw [if_pos ⟨he, hd⟩, decide_eq_false hd]
      have hf := sumD_fine l0 l1
      refine Ev.succ ?_
      simp only [euclid_Check.j0]
      refine Ev.neg (by simp) (Ev.bind (linSum_ev l0 l1 h0 h1 hlen) ?_)
      by_cases e : (sumD l0 l1).2.2 = 0
      · rw [if_pos e]
        refine Ev.pos e ((chk_l0 d hd _ _ hf.2.2.1 _ 0 rfl (by omega)).val ?_)
        rw [List.drop_zero]
      · rw [if_neg e]; exact Ev.neg e (Ev.now fun _ => rfl)
  · rw [if_neg (fun h => he h.1)]; exact Ev.neg he hj
theorem rchk_l1 (d : Int) (hd : ¬ d < 2) (K : Int) (L : List S44) (hL : L.length ≤ 64) : ∀ (n i : Nat), L.length - i = n → i ≤ L.length → Ev (fun k => sequiturref29_Check.l1 k d i K L) (modD d K (L.drop i)) := by
  intro n
  induction n with
  | zero =>
    intro i h1 h2
    refine Ev.succ ?_
    simp only [sequiturref29_Check.l1]
    rw [List.drop_eq_nil_of_le (by omega)]
    refine Ev.neg (by omega) (Ev.neg (by omega) ?_)
    unfold modD
    rw [List.all_nil, if_pos rfl]
    exact Ev.now fun k => by split <;> rfl
  | succ n ih =>
    intro i h1 h2
    have hi : i < L.length := by omega
    refine Ev.succ ?_
    simp only [sequiturref29_Check.l1]
    rw [rdM_at L i hi]
    refine Ev.pos (by omega) (Ev.pos (by omega) (Ev.neg (by omega) ?_))
    by_cases e : Int.tmod L[i].f1 d = 0
    · refine Ev.pos e (((ih (i+1) (by omega) (by omega)).of fun k => ?_).val ?_)
      · rw [w64 (by omega) (by omega)]; rfl
      · unfold modD; rw [List.drop_eq_getElem_cons hi, List.all_cons, decide_eq_true e, Bool.true_and]
    · refine Ev.neg e (Ev.now fun _ => ?_)
      unfold modD
      rw [List.drop_eq_getElem_cons hi, List.all_cons, decide_eq_false e, Bool.false_and]; rfl
theorem rchk_l0 (l0 : List S41) (l1 : List Int) (d : Int) (hd : ¬ d < 2) (he : l0.length = l1.length) (hq : ∀ q ∈ l0, R64 q.f0 ∧ M64 q.f1 ∧ q.f1.length ≤ 80) (h1 : I64 l1) (hlen : l0.length ≤ 80) :
    ∀ (n i : Nat), l0.length - i = n → i ≤ l0.length → (l0.take i).all (fun q => rightL (-1) q.f1) = true → Ev (fun k => sequiturref29_Check.l0 k l0 l1 d i) (chkD l0 l1 d) := by
  intro n
  induction n with
  | zero =>
    intro i e1 e2 ha
    rw [List.take_of_length_le (by omega)] at ha
    refine Ev.succ ?_
    simp only [sequiturref29_Check.l0]
    have hs := sumD_right ha he
    have hf := sumD_fine l0 l1
    have hG := zipS_G67 (fun q hq' => ⟨(hq q hq').1, (hq q hq').2.1⟩) ha h1
    refine Ev.neg (by omega) (Ev.bind (refLin_ev l0 l1 hG he (by omega)) ?_)
    unfold chkD
    rw [if_pos ⟨by omega, hd⟩, ← hs]
    by_cases e : (sumD l0 l1).2.2 = 0
    · rw [if_pos e]
      refine Ev.pos e ((rchk_l1 d hd _ _ hf.2.2.1 _ 0 rfl (by omega)).val ?_)
      rw [List.drop_zero]
    · rw [if_neg e]; exact Ev.neg e (Ev.now fun _ => rfl)
  | succ n ih =>
    intro i e1 e2 ha
    have hi : i < l0.length := by omega
    refine Ev.succ ?_
    simp only [sequiturref29_Check.l0]
    rw [rdQ_at l0 i hi]
    refine Ev.pos (by omega) (Ev.pos (by omega) (Ev.bind (Form_ev _ _ (by have := (hq _ (List.getElem_mem hi)).2.2; omega)) ?_))
    by_cases e : rightL (-1) l0[i].f1 = true
    · refine Ev.pos e ((ih (i+1) (by omega) (by omega) ?_).of fun k => ?_)
      · rw [List.take_succ_eq_append_getElem hi, List.all_append, ha, List.all_cons, e]; rfl
      · rw [w64 (by omega) (by omega)]; rfl
    · refine Ev.neg e (Ev.now fun _ => ?_)
      have hn : ¬ l0.all (fun q => rightL (-1) q.f1) = true := fun h => e (List.all_eq_true.1 h _ (List.getElem_mem hi))
      have hs : sumD l0 l1 = (0, [], 1) := by unfold sumD; rw [if_neg (fun h => hn h.1)]
      unfold chkD
      rw [if_pos ⟨by omega, hd⟩, hs]; rfl
theorem rCheck_ev (l0 : List S41) (l1 : List Int) (d : Int) (hq : ∀ q ∈ l0, R64 q.f0 ∧ M64 q.f1 ∧ q.f1.length ≤ 80) (h1 : I64 l1) (hlen : l0.length ≤ 80) : Ev (fun k => sequiturref29_Check.f k l0 l1 d) (chkD l0 l1 d) := by
  have hj : Ev (fun k => sequiturref29_Check.j0 k l0 l1 d true) 1 := by
    refine Ev.succ ?_
    simp only [sequiturref29_Check.j0]
    exact Ev.pos trivial (Ev.now fun _ => rfl)
  by_cases he : (l1.length : Int) = (l0.length : Int)
  · refine Ev.pos he ?_
    by_cases hd : d < 2
    · rw [decide_eq_true hd]
      exact hj.val (by unfold chkD; rw [if_neg (fun h => h.2 hd)])
    · rw [decide_eq_false hd]
      refine Ev.succ ?_
      simp only [sequiturref29_Check.j0]
      exact Ev.neg (by simp) (rchk_l0 l0 l1 d hd (by omega) hq h1 hlen _ 0 rfl (by omega) rfl)
  · exact Ev.neg he (hj.val (by unfold chkD; rw [if_neg (fun h => he h.1.symm)]))
theorem EuclidChecks_pure (l0 : List S41) (l1 : List Int) (d : Int) (h0 : ∀ q ∈ l0, R64 q.f0 ∧ M64 q.f1 ∧ q.f1.length ≤ maxLen) (h1 : I64 l1) :
    ∃ k, sequiturlaw29_EuclidChecks.f k l0 l1 d = some true := by
  refine Ev.at_ (f := fun k => sequiturlaw29_EuclidChecks.f k l0 l1 d) (Ev.bind (few_ev l0) ?_)
  have hj : Ev (fun k => sequiturlaw29_EuclidChecks.j0 k l0 l1 d true) true := by
    refine Ev.succ ?_
    simp only [sequiturlaw29_EuclidChecks.j0]
    exact Ev.pos trivial (Ev.bind alive29_ev (Ev.now fun _ => rfl))
  by_cases hL : fewD l0 = true
  · refine Ev.pos hL ?_
    by_cases h100 : (l1.length : Int) > 100
    · rw [decide_eq_true h100]; exact hj
    · rw [decide_eq_false h100]
      have hf := few_is hL
      have hq : ∀ q ∈ l0, R64 q.f0 ∧ M64 q.f1 ∧ q.f1.length ≤ 80 := fun q hq => ⟨(h0 q hq).1, (h0 q hq).2.1, hf.2 q hq⟩
      refine Ev.succ ?_
      simp only [sequiturlaw29_EuclidChecks.j0]
      refine Ev.neg (by simp) (Ev.bind (Check_ev l0 l1 d (fun q hq' => ⟨(hq q hq').1, (hq q hq').2.1, by have := (hq q hq').2.2; omega⟩) h1 (by have := hf.1; omega)) (Ev.bind (rCheck_ev l0 l1 d hq h1 hf.1) (Ev.pos rfl (Ev.bind alive29_ev (Ev.now fun _ => rfl)))))
  · exact Ev.neg hL hj
open Go.ChangeShapes Go.WideShapes
theorem list_of {α : Type} (n : Nat) (p : Nat → α → Prop) (h : ∀ i, i < n → ∃ x, p i x) : ∃ l : List α, l.length = n ∧ ∀ i x, l[i]? = some x → p i x := by
  induction n with
  | zero => exact ⟨[], rfl, by simp⟩
  | succ n ih =>
    obtain ⟨l, hl, hp⟩ := ih (fun i hi => h i (by omega))
    obtain ⟨x, hx⟩ := h n (by omega)
    refine ⟨l ++ [x], by simp [hl], fun i y hy => ?_⟩
    rcases Nat.lt_or_ge i n with q | q
    · rw [List.getElem?_append_left (by omega)] at hy; exact hp i y hy
    · rw [List.getElem?_append_right (by omega)] at hy
      have : i - l.length = 0 := by
        rcases Nat.eq_zero_or_pos (i - l.length) with e | e
        · exact e
        · rw [List.getElem?_eq_none (by simp; omega)] at hy; cases hy
      rw [this] at hy
      obtain rfl : x = y := by simpa using hy
      rw [show i = n by omega]; exact hx
/-- An argument that is a slice, opened: a list of what its elements are. -/
theorem open_row {H : Type} {enc : TypeId × Value → H} {W : World} {held : Bool} {α : Type} (d : Kd α) (Q : α → Prop) {t e : TypeId} {spare : Nat → Bool} {fuel : Nat} {A : Option Addr} {n c : Nat} {x : DataW H × List MemPlace}
    (ht : Try.prog.underlying t = some (.slice e)) (hsz : Try.prog.cellsOf e = d.sz)
    (ho : ∀ m cs y, DataW.trod enc Try.prog W 0 spare held m e cs = some y → ∃ x, d.K W x cs ∧ Q x)
    (h : DataW.trod enc Try.prog W 0 spare held fuel t [.slice A n c] = some x) :
    ∃ l : List α, l.length = n ∧ n ≤ c ∧ c ≤ maxLen ∧ d.C W A n l ∧ ∀ x ∈ l, Q x := by
  rcases Go.Deep.open_slice ht h with ⟨hcs, _⟩ | ⟨a, len, cap, m, n', D, Pl, hcs, _, hl, hm, hmm, _, hi⟩
  · simp at hcs
    obtain ⟨rfl, rfl, rfl⟩ := hcs
    exact ⟨[], rfl, Nat.le_refl _, Nat.zero_le _, Kd.C_nil d W, by simp⟩
  · simp at hcs
    obtain ⟨rfl, rfl, rfl⟩ := hcs
    have hmn : n ≤ m := by rw [hmm]; split <;> omega
    obtain ⟨l, h1, h2⟩ := list_of n (fun i x => (∃ cs, cs.length = d.sz ∧ d.K W x cs ∧ ∀ j u, cs[j]? = some u → W.cell? (a.add (i * d.sz + j)) = some u) ∧ Q x) (fun i hin => by
      obtain ⟨cs, hc, hx⟩ := hi i (by omega)
      obtain ⟨x, hK, hQ⟩ := ho _ _ _ hx
      obtain ⟨_, hlen, hat⟩ := World.cells?_some hc
      refine ⟨x, ⟨cs, hlen.trans hsz, hK, fun j u hj => ?_⟩, hQ⟩
      have hjl : j < cs.length := by
        rcases Nat.lt_or_ge j cs.length with q | q
        · exact q
        · rw [List.getElem?_eq_none q] at hj; cases hj
      rw [← hj, ← hat j (by omega), hsz, Go.Deep.add_add])
    refine ⟨l, h1, hl, hm, ⟨h1, ?_, fun _ => ⟨a, rfl, fun j p hj => (h2 j p hj).1⟩⟩, fun x hx => ?_⟩
    · have : maxLen = 9223372036854775807 := rfl
      omega
    · obtain ⟨i, hi', he⟩ := List.getElem_of_mem hx
      exact (h2 i x (by rw [List.getElem?_eq_getElem hi', he])).2
theorem open_int1 {H : Type} {enc : TypeId × Value → H} {W : World} {held : Bool} {spare : Nat → Bool} {m : Nat} {e : TypeId} (hu : Try.prog.underlying e = some (.int .i64)) (cs : List Value) (y : DataW H × List MemPlace) (h : DataW.trod enc Try.prog W 0 spare held m e cs = some y) :
    ∃ x : Int, (Kd.int .i64).K W x cs ∧ (-9223372036854775808 ≤ x ∧ x ≤ 9223372036854775807) := by
  obtain ⟨n, rfl, _, hw⟩ := DataW.trod_int hu h
  exact ⟨n, rfl, wf64 hw⟩
theorem open_ints1 {H : Type} {enc : TypeId × Value → H} {W : World} {held : Bool} {spare : Nat → Bool} {fuel : Nat} {t e : TypeId} {A : Option Addr} {n c : Nat} {x : DataW H × List MemPlace} (hu : Try.prog.underlying t = some (.slice e)) (he : Try.prog.underlying e = some (.int .i64)) (hc : Try.prog.cellsOf e = 1)
    (h : DataW.trod enc Try.prog W 0 spare held fuel t [.slice A n c] = some x) :
    ∃ l : List Int, l.length = n ∧ n ≤ c ∧ c ≤ maxLen ∧ Kd.C (Kd.int .i64) W A n l ∧ I64 l :=
  open_row (Kd.int .i64) _ hu hc (fun _ cs y h => open_int1 he cs y h) h
/-- A monomial's cells. -/
theorem open_mono {H : Type} {enc : TypeId × Value → H} {W : World} {held : Bool} {spare : Nat → Bool} {m : Nat} (cs : List Value) (y : DataW H × List MemPlace) (h : DataW.trod enc Try.prog W 0 spare held m 44 cs = some y) :
    ∃ x : S44, k44.K W x cs ∧ ((-9223372036854775808 ≤ x.f0 ∧ x.f0 ≤ 9223372036854775807) ∧ -9223372036854775808 ≤ x.f1 ∧ x.f1 ≤ 9223372036854775807) := by
  obtain ⟨y0, y1, n, _, hl, h0, h1⟩ := trod_struct2 Try.underlying44 h
  have e0 : Try.prog.cellsOf 3 = 1 := by kernel_rfl
  have e1 : Try.prog.cellsOf 2 = 1 := by kernel_rfl
  have e2 : Try.prog.cellsOf 44 = 2 := by kernel_rfl
  simp only [e0, e1] at h0 h1
  rw [e2] at hl
  match cs, hl with
  | [c0, c1], _ =>
    obtain ⟨a, ha, _, hw⟩ := DataW.trod_int Try.underlying3 h0
    obtain ⟨b, hb, _, hw2⟩ := DataW.trod_int Try.underlying2 h1
    simp at ha hb
    subst ha hb
    exact ⟨⟨a, b⟩, k44_mk W ⟨a, b⟩, wf64 hw, wf64 hw2⟩
/-- A form's cells. -/
theorem open_lin {H : Type} {enc : TypeId × Value → H} {W : World} {held : Bool} {spare : Nat → Bool} {m : Nat} (cs : List Value) (y : DataW H × List MemPlace) (h : DataW.trod enc Try.prog W 0 spare held m 41 cs = some y) :
    ∃ (x : S41) (A : Option Addr) (c : Nat), cs = [.int .i64 x.f0, .slice A x.f1.length c] ∧ x.f1.length ≤ c ∧ c ≤ maxLen ∧ Kd.C k44 W A x.f1.length x.f1 ∧ R64 x.f0 ∧ M64 x.f1 := by
  obtain ⟨y0, y1, n, _, hl, h0, h1⟩ := trod_struct2 Try.underlying41 h
  have e1 : Try.prog.cellsOf 2 = 1 := by kernel_rfl
  have e0 : Try.prog.cellsOf 39 = 1 := by kernel_rfl
  have e2 : Try.prog.cellsOf 41 = 2 := by kernel_rfl
  simp only [e0, e1] at h0 h1
  rw [e2] at hl
  match cs, hl with
  | [c0, c1], _ =>
    obtain ⟨a, ha, _, hw⟩ := DataW.trod_int Try.underlying2 h0
    simp at ha
    subst ha
    have h2 : DataW.trod enc Try.prog W 0 spare held n 39 [c1] = some y1 := h1
    have hs : ∃ A n c, c1 = .slice A n c := by
      rcases Go.Deep.open_slice Try.underlying39 h2 with ⟨hcs, _⟩ | ⟨a, len, cap, m, n', D, Pl, hcs, _⟩
      · simp at hcs; exact ⟨_, _, _, hcs⟩
      · simp at hcs; exact ⟨_, _, _, hcs⟩
    obtain ⟨A, len, c, rfl⟩ := hs
    obtain ⟨l, rfl, hc, hm, hC, hQ⟩ := open_row k44 _ Try.underlying39 (by kernel_rfl) (fun _ cs y h => open_mono cs y h) h2
    exact ⟨⟨a, l⟩, A, c, rfl, hc, hm, hC, wf64 hw, hQ⟩
def Q41 (x : S41) : Prop := R64 x.f0 ∧ M64 x.f1 ∧ x.f1.length ≤ maxLen
theorem open_linK {H : Type} {enc : TypeId × Value → H} {W : World} {held : Bool} {spare : Nat → Bool} {m : Nat} (cs : List Value) (y : DataW H × List MemPlace) (h : DataW.trod enc Try.prog W 0 spare held m 41 cs = some y) :
    ∃ x : S41, k41.K W x cs ∧ Q41 x := by
  obtain ⟨x, A, c, rfl, hc, hm, hC, hr, hM⟩ := open_lin cs y h
  exact ⟨x, k41_mk W x hc hC, hr, hM, Nat.le_trans hc hm⟩
end Go.Proofs.Ytjinmlpekecmbaa.Pure
