/- Where the dark shadow holds, some whole number for the variable makes all hold; where it is exact the real one is enough: for every inequalities and values (asked of at most 12, of numbers of size at most 1000, numbers of times of at most 100). -/
import Derived.Test.YtkfbfgkdabljiaaPShadowDarkx
import Derived.Laws.BitsAllLaws
import Derived.Deep.Slices
import Derived.ChangeSame
import Derived.KernelRfl
import Derived.OpenShut
namespace Go.Proofs.Ytkfbfgkdabljiaa.Pure
open Go.RowKit Go.Proofs.Ytkfbfgkdabljiaa.PShadowDark Go.Proofs.YtkfbfgkdabljiaaW.PrintWords Go.Proofs.YtkfbfgkdabljiaaW.PrintLast
set_option linter.unusedVariables false
set_option linter.unusedSimpArgs false
/-- A number, if it fits. -/
def fitI (n : Int) : Int × Bool := if -9223372036854775808 ≤ n ∧ n ≤ 9223372036854775807 then (n, true) else (0, false)
theorem abs_mul_lt {a b : Int} (h1 : -9223372036854775808 ≤ a) (h2 : a ≤ 9223372036854775807) (h3 : -9223372036854775808 ≤ b) (h4 : b ≤ 9223372036854775807) : a.natAbs * b.natAbs ≤ 85070591730234615865843651857942052864 :=
  Nat.le_trans (Nat.mul_le_mul (show a.natAbs ≤ 9223372036854775808 by omega) (show b.natAbs ≤ 9223372036854775808 by omega)) (by decide)
-- one round of the halving: x odd, y = 2^t * z, z odd
theorem u64w (n : Int) : IntKind.u64.wrap n = n % 18446744073709551616 := by
  simp [IntKind.wrap, IntKind.bits, IntKind.signed]
theorem wf64 {a : Int} (h : (Lit.int .i64 a).wf = true) : -9223372036854775808 ≤ a ∧ a ≤ 9223372036854775807 := by
  simpa [Lit.wf, IntKind.min, IntKind.max, IntKind.signed, IntKind.bits] using h
theorem w64 {n : Int} (h1 : -9223372036854775808 ≤ n) (h2 : n ≤ 9223372036854775807) : wrap64 n = n := by
  unfold wrap64; omega
def I64 (l : List Int) : Prop := ∀ x ∈ l, -9223372036854775808 ≤ x ∧ x ≤ 9223372036854775807
theorem rd_at (l : List Int) (i : Nat) (h : i < l.length) : rd l (i:Int) = l[i] := by
  simp [rd, h]
/-- At all great fuels the same answer. -/
def Ev {α : Type} (f : Nat → Option α) (v : α) : Prop := ∃ K, ∀ k, K ≤ k → f k = some v
theorem Ev.now {α : Type} {f : Nat → Option α} {v : α} (h : ∀ k, f k = some v) : Ev f v := ⟨0, fun k _ => h k⟩
theorem Ev.succ {α : Type} {f : Nat → Option α} {v : α} (h : Ev (fun k => f (k + 1)) v) : Ev f v := by
  obtain ⟨K, h⟩ := h
  refine ⟨K + 1, fun k hk => ?_⟩
  obtain ⟨m, rfl⟩ : ∃ m, k = m + 1 := ⟨k - 1, by omega⟩
  exact h m (by omega)
theorem Ev.bind {α β : Type} {f : Nat → Option α} {g : Nat → α → Option β} {v : α} {u : β} (h : Ev f v) (h2 : Ev (fun k => g k v) u) : Ev (fun k => (f k).bind (g k)) u := by
  obtain ⟨K, h⟩ := h
  obtain ⟨K2, h2⟩ := h2
  refine ⟨max K K2, fun k hk => ?_⟩
  show (f k).bind (g k) = some u
  rw [h k (by omega)]
  exact h2 k (by omega)
theorem Ev.of {α : Type} {f g : Nat → Option α} {v : α} (h : Ev f v) (e : ∀ k, g k = f k) : Ev g v := by
  obtain ⟨K, h⟩ := h
  exact ⟨K, fun k hk => (e k).trans (h k hk)⟩
theorem Ev.at_ {α : Type} {f : Nat → Option α} {v : α} (h : Ev f v) : ∃ k, f k = some v := by
  obtain ⟨K, h⟩ := h
  exact ⟨K, h K (Nat.le_refl _)⟩
theorem Ev.mono {α : Type} {f : Nat → Option α} {v : α} (K : Nat) (hm : ∀ k, LeO (f k) (f (k + 1))) (h : f K = some v) : Ev f v := by
  refine ⟨K, fun k hk => ?_⟩
  obtain ⟨d, rfl⟩ := Nat.exists_eq_add_of_le hk
  induction d with
  | zero => exact h
  | succ d ih => exact hm (K + d) v (ih (by omega))
theorem Ev.val {α : Type} {f : Nat → Option α} {v u : α} (h : Ev f v) (e : v = u) : Ev f u := e ▸ h
theorem Ev.pos {α : Type} {c : Prop} [Decidable c] {f g : Nat → Option α} {v : α} (h : c) (hf : Ev f v) : Ev (fun k => if c then f k else g k) v := hf.of fun k => if_pos h
theorem Ev.neg {α : Type} {c : Prop} [Decidable c] {f g : Nat → Option α} {v : α} (h : ¬ c) (hf : Ev g v) : Ev (fun k => if c then f k else g k) v := hf.of fun k => if_neg h
theorem rdM_at (l : List S68) (i : Nat) (h : i < l.length) : rd_T68 l (i:Int) = l[i] := by simp [rd_T68, h]
theorem rdQ_at (l : List S62) (i : Nat) (h : i < l.length) : rd_T62 l (i:Int) = l[i] := by simp [rd_T62, h]
theorem rdI_at (l : List S70) (i : Nat) (h : i < l.length) : rd_T70 l (i:Int) = l[i] := by simp [rd_T70, h]
/-- Are the variables in order, of the 64, and no factor zero? -/
def rightL : Int → List S68 → Bool
  | _, [] => true
  | last, m :: l => decide (last < m.f0) && decide (m.f0 < 64) && decide (m.f1 ≠ 0) && rightL m.f0 l
theorem Right_l0 (l : List S68) (hl : l.length ≤ 9223372036854775807) : ∀ (d i : Nat) (last : Int), l.length - i = d → i ≤ l.length →
    Ev (fun k => lin_Right.l0 k last l (l.length:Int) i) (if rightL last (l.drop i) = true then 0 else 1) := by
  intro d
  induction d with
  | zero =>
    intro i last h1 h2
    refine Ev.succ (Ev.now fun k => ?_)
    simp only [lin_Right.l0]
    rw [if_neg (by omega), List.drop_eq_nil_of_le (by omega)]; rfl
  | succ d ih =>
    intro i last h1 h2
    have hi : i < l.length := by omega
    rw [List.drop_eq_getElem_cons hi]
    by_cases e : last < l[i].f0 ∧ l[i].f0 < 64 ∧ l[i].f1 ≠ 0
    · obtain ⟨e1, e2, e3⟩ := e
      refine Ev.succ (Ev.of (ih (i+1) l[i].f0 (by omega) (by omega)) fun k => ?_) |>.val ?_
      · simp only [lin_Right.l0]
        rw [if_pos (by omega), if_pos (by omega), if_pos (by omega), rdM_at l i hi, if_neg (by omega), if_neg (by omega), if_neg e3, w64 (by omega) (by omega)]; rfl
      · simp only [rightL, decide_eq_true e1, decide_eq_true e2, decide_eq_true e3, Bool.true_and]
    · refine Ev.succ (Ev.now fun k => ?_)
      have hr : rightL last (l[i] :: l.drop (i+1)) = false := by
        simp only [rightL, Bool.and_eq_false_iff, decide_eq_false_iff_not]
        omega
      rw [hr]
      simp only [lin_Right.l0]
      rw [if_pos (by omega), if_pos (by omega), if_pos (by omega), rdM_at l i hi]
      by_cases e1 : l[i].f0 ≤ last
      · rw [if_pos e1]; rfl
      by_cases e2 : l[i].f0 ≥ 64
      · rw [if_neg e1, if_pos e2]; rfl
      · rw [if_neg e1, if_neg e2, if_pos (by omega)]; rfl
theorem Right_ev (K : Int) (l : List S68) (hl : l.length ≤ 9223372036854775807) : Ev (fun k => lin_Right.f k K l) (if rightL (-1) l = true then 0 else 1) := by
  have := Right_l0 l hl _ 0 (-1) rfl (by omega)
  exact this
theorem iRight_ev (K : Int) (l : List S68) (b : Bool) (hl : l.length ≤ 9223372036854775807) : Ev (fun k => ineq_Right.f k K l b) (if rightL (-1) l = true then 0 else 1) :=
  Ev.bind (Right_ev K l hl) (Ev.now fun _ => rfl)
theorem right1_ev (K : Int) (l : List S68) (hl : l.length ≤ 9223372036854775807) : Ev (fun k => lin_right_1.f k K l) (!rightL (-1) l) :=
  Ev.bind (Right_ev K l hl) (Ev.now fun _ => by cases rightL (-1) l <;> rfl)
theorem idx_l0 (l : List S62) (hl : l.length ≤ 9223372036854775807) (hm : ∀ q ∈ l, q.f1.length ≤ 9223372036854775807) : ∀ (d i : Nat), l.length - i = d → i ≤ l.length →
    ∃ v, Ev (fun k => api_Lin_117.l0 k l (l.length:Int) i) v ∧ decide (v ≥ 0) = !((l.drop i).all fun q => rightL (-1) q.f1) := by
  intro d
  induction d with
  | zero =>
    intro i h1 h2
    refine ⟨-1, Ev.succ (Ev.now fun k => ?_), ?_⟩
    · simp only [api_Lin_117.l0]
      rw [if_neg (by omega)]
    · rw [List.drop_eq_nil_of_le (by omega)]; rfl
  | succ d ih =>
    intro i h1 h2
    have hi : i < l.length := by omega
    rw [List.drop_eq_getElem_cons hi]
    have hq := right1_ev l[i].f0 l[i].f1 (hm _ (List.getElem_mem hi))
    obtain ⟨v, ev, hv⟩ := ih (i+1) (by omega) (by omega)
    have hs : ∀ k, api_Lin_117.l0 (k+1) l (l.length:Int) i = (lin_right_1.f k l[i].f0 l[i].f1).bind fun t => if t = true then some (i:Int) else api_Lin_117.l0 k l (l.length:Int) ((i+1 : Nat) : Int) := by
      intro k
      simp only [api_Lin_117.l0]
      rw [if_pos (by omega), if_pos (by omega), if_pos (by omega), rdQ_at l i hi, w64 (by omega) (by omega)]; rfl
    by_cases e : rightL (-1) l[i].f1 = true
    · rw [e] at hq
      refine ⟨v, Ev.succ (Ev.of (Ev.bind hq ?_) hs), ?_⟩
      · exact Ev.of ev fun k => by simp
      · rw [hv, List.all_cons, e, Bool.true_and]
    · have e' : rightL (-1) l[i].f1 = false := by simpa using e
      rw [e'] at hq
      refine ⟨i, Ev.succ (Ev.of (Ev.bind hq ?_) hs), ?_⟩
      · exact Ev.now fun k => by simp
      · rw [List.all_cons, e']; simp
theorem linright_ev (l : List S62) (hl : l.length ≤ 9223372036854775807) (hm : ∀ q ∈ l, q.f1.length ≤ 9223372036854775807) : Ev (fun k => lin_right.f k l) (l.all fun q => rightL (-1) q.f1) := by
  obtain ⟨v, ev, hv⟩ := idx_l0 l hl hm _ 0 rfl (by omega)
  rw [List.drop_zero] at hv
  refine Ev.bind (v := decide (v ≥ 0)) (Ev.bind ev (Ev.now fun _ => rfl)) (Ev.now fun _ => ?_)
  rw [hv]; simp
theorem rightL_mem : ∀ (l : List S68) (last : Int), rightL last l = true → ∀ m ∈ l, last < m.f0 ∧ m.f0 < 64 ∧ m.f1 ≠ 0 := by
  intro l
  induction l with
  | nil => intro last _ m hm; cases hm
  | cons a l ih =>
    intro last h m hm
    simp only [rightL, Bool.and_eq_true, decide_eq_true_eq] at h
    rcases List.mem_cons.1 hm with e | e
    · subst e; exact ⟨h.1.1.1, h.1.1.2, h.1.2⟩
    · have := ih a.f0 h.2 m e; omega
theorem rightL_len : ∀ (l : List S68) (last : Int), last ≤ 63 → rightL last l = true → (l.length : Int) ≤ 63 - last := by
  intro l
  induction l with
  | nil => intro last h _; simp; omega
  | cons a l ih =>
    intro last h0 h
    simp only [rightL, Bool.and_eq_true, decide_eq_true_eq] at h
    have := ih a.f0 (by omega) h.2
    simp only [List.length_cons]; omega
/-- The monomials' ranges. -/
def M64 (l : List S68) : Prop := ∀ m ∈ l, (-9223372036854775808 ≤ m.f0 ∧ m.f0 ≤ 9223372036854775807) ∧ -9223372036854775808 ≤ m.f1 ∧ m.f1 ≤ 9223372036854775807
def R64 (n : Int) : Prop := -9223372036854775808 ≤ n ∧ n ≤ 9223372036854775807
theorem in64_of {n : Int} (h : R64 n) : in64 n = true := by
  simp only [in64, Bool.and_eq_true, decide_eq_true_eq]; exact h
theorem rd_R64 {x : List Int} (hx : I64 x) (i : Int) : R64 (rd x i) := by
  unfold rd
  by_cases h : i.toNat < x.length
  · rw [List.getD_eq_getElem?_getD, List.getElem?_eq_getElem h]; exact hx _ (List.getElem_mem h)
  · rw [List.getD_eq_getElem?_getD, List.getElem?_eq_none (by omega)]; exact ⟨by simp, by simp⟩
theorem mul_R64 {a b : Int} (ha : R64 a) (hb : R64 b) : -85070591730234615865843651857942052864 ≤ a * b ∧ a * b ≤ 85070591730234615865843651857942052864 := by
  have h := abs_mul_lt ha.1 ha.2 hb.1 hb.2
  rw [← Int.natAbs_mul] at h
  omega
theorem wrap192_id {s : Int} (h1 : -3138550867693340381917894711603833208051177722232017256448 ≤ s) (h2 : s < 3138550867693340381917894711603833208051177722232017256448) : wrap192 s = s := by
  unfold wrap192; omega
/-- The constant divided, rounded up, and a monomial divided. -/
def ceilD (K d : Int) : Int := -((-K) / d)
theorem tdiv_R64 {a d : Int} (ha : R64 a) (hd : 1 ≤ d) : R64 (Int.tdiv a d) ∧ (0 < d → (0 ≤ a → Int.tdiv a d = a / d) ∧ (a < 0 → Int.tdiv a d = -((-a) / d))) := by
  have h : 0 < d → (0 ≤ a → Int.tdiv a d = a / d) ∧ (a < 0 → Int.tdiv a d = -((-a) / d)) := by
    intro _
    constructor
    · intro h0; exact Int.tdiv_eq_ediv_of_nonneg h0
    · intro h0
      have h1 : Int.tdiv (-a) d = (-a) / d := Int.tdiv_eq_ediv_of_nonneg (by omega)
      rw [Int.neg_tdiv] at h1; omega
  refine ⟨?_, h⟩
  obtain ⟨h1, h2⟩ := h (by omega)
  have hA := ha.1
  have hB := ha.2
  by_cases e : 0 ≤ a
  · rw [h1 e]
    have p1 : 0 ≤ a / d := Int.ediv_nonneg e (by omega)
    have p2 : a / d ≤ a := Int.ediv_le_self d e
    exact ⟨by omega, by omega⟩
  · rw [h2 (by omega)]
    have p1 : 0 ≤ (-a) / d := Int.ediv_nonneg (by omega) (by omega)
    have p2 : (-a) / d ≤ -a := Int.ediv_le_self d (by omega)
    exact ⟨by omega, by omega⟩
theorem ceil_law {K d : Int} (hd : 1 ≤ d) : d * (ceilD K d - 1) < K ∧ K ≤ d * ceilD K d := by
  unfold ceilD
  have h1 := Int.ediv_mul_le (-K) (show d ≠ 0 by omega)
  have h2 := Int.lt_ediv_add_one_mul_self (-K) (show 0 < d by omega)
  rw [Int.mul_comm] at h1 h2
  generalize (-K) / d = q at *
  rw [Int.mul_add] at h2
  rw [Int.mul_sub, Int.mul_neg]
  omega
theorem ceilD_uniq {K d c : Int} (hd : 1 ≤ d) (h1 : d * (c - 1) < K) (h2 : K ≤ d * c) : c = ceilD K d := by
  obtain ⟨p1, p2⟩ := ceil_law (K := K) hd
  have a1 : d * (c - 1) < d * ceilD K d := by omega
  have a2 : d * (ceilD K d - 1) < d * c := by omega
  have b1 := Int.lt_of_mul_lt_mul_left a1 (by omega)
  have b2 := Int.lt_of_mul_lt_mul_left a2 (by omega)
  omega
theorem Ceil_eq {K d : Int} (hK : R64 K) (hd : 1 ≤ d) (hd2 : d ≤ 9223372036854775807) : num_Ceil.f K d = some (ceilD K d, true) := by
  have hov : num_over.f K d = some false := by
    unfold num_over.f
    rw [if_neg (by omega)]
    split
    · rw [show (d == -1) = false from beq_eq_false_iff_ne.2 (by omega)]
    · rfl
  unfold num_Ceil.f
  rw [hov]
  simp only [Option.bind_some]
  rw [if_neg (by simp), if_neg (by omega)]
  have hT := (tdiv_R64 hK hd).1
  have he : K = d * Int.tdiv K d + Int.tmod K d := by rw [Int.add_comm]; exact (Int.tmod_add_mul_tdiv K d).symm
  have hW : wrap64 (Int.tdiv K d) = Int.tdiv K d := w64 hT.1 hT.2
  rw [hW]
  by_cases e : Int.tmod K d = 0
  · rw [if_pos e]
    congr 2
    refine ceilD_uniq hd ?_ ?_ <;> (try rw [Int.mul_sub]) <;> omega
  · rw [if_neg e]
    by_cases n : K < 0
    · have hm : Int.tmod K d ≤ 0 := by
        have := Int.tmod_nonneg (a := -K) d (by omega)
        rw [Int.neg_tmod] at this; omega
      have hm2 : -d < Int.tmod K d := by
        have := Int.tmod_lt_of_pos (-K) (show 0 < d by omega)
        rw [Int.neg_tmod] at this; omega
      rw [decide_eq_true n, decide_eq_false (by omega), if_neg (by decide)]
      congr 2
      refine ceilD_uniq hd ?_ ?_ <;> (try rw [Int.mul_sub]) <;> omega
    · have hm : 0 ≤ Int.tmod K d := Int.tmod_nonneg d (by omega)
      have hm2 : Int.tmod K d < d := Int.tmod_lt_of_pos K (by omega)
      rw [decide_eq_false n, decide_eq_false (show ¬ d < 0 by omega), if_pos (by decide)]
      have hd1 : d ≠ 1 := by intro h; subst h; simp at e
      have hq : Int.tdiv K d ≤ K / 2 := by
        rw [(tdiv_R64 hK hd).2 (by omega) |>.1 (by omega)]
        have : 2 * (K / d) ≤ d * (K / d) := Int.mul_le_mul_of_nonneg_right (by omega) (Int.ediv_nonneg (by omega) (by omega))
        have := Int.mul_ediv_self_le (x := K) (k := d) (by omega)
        omega
      have hK1 := hK.2
      have hT1 := hT.1
      rw [w64 (by omega) (by omega)]
      congr 2
      refine ceilD_uniq hd ?_ ?_ <;> (try rw [Int.mul_sub]) <;> (try rw [Int.mul_add]) <;> omega
instance instR64 (n : Int) : Decidable (R64 n) := inferInstanceAs (Decidable (_ ∧ _))
theorem evalFold_le (x : List Int) (hx : I64 x) : ∀ (l : List S68) (s : Int), M64 l →
    s - l.length * 85070591730234615865843651857942052864 ≤ l.foldl (evalStep x) s ∧ l.foldl (evalStep x) s ≤ s + l.length * 85070591730234615865843651857942052864 := by
  intro l
  induction l with
  | nil => intro s _; simp
  | cons a l ih =>
    intro s h
    have h1 := ih (evalStep x s a) (fun m hm => h m (List.mem_cons_of_mem _ hm))
    have h2 := mul_R64 (h a (List.mem_cons_self ..)).2 (rd_R64 hx a.f0)
    have h3 : s - 85070591730234615865843651857942052864 ≤ evalStep x s a ∧ evalStep x s a ≤ s + 85070591730234615865843651857942052864 := by
      unfold evalStep; split <;> omega
    simp only [List.foldl_cons, List.length_cons]
    omega
theorem evalSum_le (K : Int) (l : List S68) (x : List Int) (hK : R64 K) (hl : M64 l) (hx : I64 x) (hr : rightL (-1) l = true) :
    -3138550867693340381917894711603833208051177722232017256448 ≤ evalSum K l x ∧ evalSum K l x < 3138550867693340381917894711603833208051177722232017256448 := by
  have h := evalFold_le x hx l (0 + K * 1) hl
  have h2 := rightL_len l (-1) (by omega) hr
  unfold evalSum
  have := hK.1
  have := hK.2
  omega
theorem Eval_ev (K : Int) (l : List S68) (x : List Int) (hK : R64 K) (hl : M64 l) (hx : I64 x) (hlen : l.length ≤ 9223372036854775807) :
    Ev (fun k => lin_Eval.f k K l x) (if rightL (-1) l = true then (if (fit64 (evalSum K l x)).2 = true then ((fit64 (evalSum K l x)).1, 0) else (0, 5)) else (0, 1)) := by
  have h := linright_ev [⟨K, l⟩] (by simp) (by intro q hq; simp at hq; subst hq; exact hlen)
  refine Ev.bind h (Ev.now fun _ => ?_)
  simp only [List.all_cons, List.all_nil, Bool.and_true]
  by_cases e : rightL (-1) l = true
  · rw [if_pos e, if_pos e]
    have hb := evalSum_le K l x hK hl hx e
    have hok : (in64 K && l.all (evalOk x)) = true := by
      rw [in64_of hK, Bool.true_and, List.all_eq_true]
      intro m hm
      have := (rightL_mem l (-1) e m hm).1
      simp only [evalOk, Bool.and_eq_true, Bool.or_eq_true, decide_eq_true_eq]
      exact ⟨by omega, .inr ⟨in64_of (hl m hm).2, in64_of (rd_R64 hx _)⟩⟩
    rw [if_pos hok]
    unfold fit192
    rw [wrap192_id hb.1 hb.2]
  · rw [if_neg e, if_neg e]
theorem evalFold_add (x : List Int) : ∀ (l : List S68) (s : Int), l.foldl (evalStep x) s = s + l.foldl (evalStep x) 0 := by
  intro l
  induction l with
  | nil => intro s; simp
  | cons a l ih =>
    intro s
    simp only [List.foldl_cons]
    rw [ih (evalStep x s a), ih (evalStep x 0 a)]
    unfold evalStep; split <;> omega
theorem evalSum_eq (K : Int) (l : List S68) (x : List Int) : evalSum K l x = K + l.foldl (evalStep x) 0 := by
  unfold evalSum; rw [evalFold_add]; omega
theorem Far_eq {a : Int} (h1 : -9223372036854775808 ≤ a) (h2 : a ≤ 9223372036854775807) : sequiturref01_Far.f a = some (a.natAbs : Int) := by
  unfold sequiturref01_Far.f
  simp only [u64w]
  split <;> congr 1 <;> omega
/-- The two halves of a number, up to a multiple of 2^128. -/
def hiW (v : Int) : Int := wrap64 (v / 18446744073709551616)
def loW (v : Int) : Int := v % 18446744073709551616
theorem xor_all (x : Int) (h1 : 0 ≤ x) (h2 : x < 18446744073709551616) : Go.bits .xor .u64 18446744073709551615 x = 18446744073709551615 - x := by
  obtain ⟨n, rfl⟩ := Int.eq_ofNat_of_zero_le h1
  refine Eq.trans (u64_xor_nat 18446744073709551615 n (by decide) (by omega)) ?_
  have h : (BitVec.allOnes 64 ^^^ BitVec.ofNat 64 n).toNat = 18446744073709551615 ^^^ n := by
    rw [BitVec.toNat_xor, BitVec.toNat_allOnes, BitVec.toNat_ofNat, Nat.mod_eq_of_lt (by omega)]
  rw [BitVec.allOnes_xor, BitVec.toNat_not, BitVec.toNat_ofNat, Nat.mod_eq_of_lt (by omega)] at h
  omega
theorem Of_eq {a : Int} (h1 : -9223372036854775808 ≤ a) (h2 : a ≤ 9223372036854775807) : sequiturref01_Of.f a = some (hiW a, loW a) := by
  unfold sequiturref01_Of.f hiW loW wrap64
  simp only [u64w]
  split <;> congr 2 <;> omega
theorem Plus_eq (v w : Int) : sequiturref01_Plus.f (hiW v) (loW v) (hiW w) (loW w) = some (hiW (v + w), loW (v + w)) := by
  unfold sequiturref01_Plus.f hiW loW wrap64
  simp only [u64w]
  split <;> congr 2 <;> omega
theorem hiW0 : hiW 0 = 0 := by unfold hiW wrap64; omega
theorem loW0 : loW 0 = 0 := by decide
theorem hiW1 : hiW 1 = 0 := by unfold hiW wrap64; omega
theorem loW1 : loW 1 = 1 := by decide
theorem Minus_eq (v : Int) : sequiturref01_Minus.f (hiW v) (loW v) = some (hiW (-v), loW (-v)) := by
  unfold sequiturref01_Minus.f
  rw [xor_all _ (by unfold loW; omega) (by unfold loW; omega)]
  rw [show wrap64 (-1 - hiW v) = hiW (-1 - v) by unfold hiW wrap64; omega, show 18446744073709551615 - loW v = loW (-1 - v) by unfold loW; omega]
  have := Plus_eq (-1 - v) 1
  rw [hiW1, loW1] at this
  rw [this, show -1 - v + 1 = -v by omega]; rfl
theorem Fits_eq (v : Int) (h1 : -170141183460469231731687303715884105728 ≤ v) (h2 : v < 170141183460469231731687303715884105728) : sequiturref01_Fits.f (hiW v) (loW v) = some (fitI v) := by
  have e : wrap64 (loW v) = if loW v < 9223372036854775808 then loW v else loW v - 18446744073709551616 := by
    have : 0 ≤ loW v ∧ loW v < 18446744073709551616 := by unfold loW; omega
    unfold wrap64; split <;> omega
  have hh : hiW v = v / 18446744073709551616 := by unfold hiW; exact w64 (by omega) (by omega)
  unfold sequiturref01_Fits.f fitI
  rw [e, hh]
  unfold loW
  repeat' split
  all_goals first | omega | (congr 2; omega) | rfl
theorem Times_l0 : ∀ (u : Nat) (x o : Int), u < 18446744073709551616 → ∃ K, ∀ k, K ≤ k → sequiturref01_Times.l0 k u (hiW x) (loW x) (hiW o) (loW o) = some (hiW (o + u * x), loW (o + u * x)) := by
  intro u
  induction u using Nat.strongRecOn with
  | _ u ih =>
    intro x o hu
    by_cases h : u = 0
    · subst h
      refine ⟨1, fun k hk => ?_⟩
      obtain ⟨m, rfl⟩ : ∃ m, k = m + 1 := ⟨k - 1, by omega⟩
      simp only [sequiturref01_Times.l0]
      rw [if_neg (by omega)]; simp
    · have ht : Int.tdiv (u:Int) 2 = ((u / 2 : Nat) : Int) := (Int.ofNat_tdiv u 2).symm
      have hm : Int.tmod (u:Int) 2 = ((u % 2 : Nat) : Int) := (Int.ofNat_tmod u 2).symm
      have hw : IntKind.u64.wrap (Int.tdiv (u:Int) 2) = ((u / 2 : Nat) : Int) := by rw [ht, u64w]; omega
      have hx : ((u / 2 : Nat) : Int) * (x + x) = ((u - u % 2 : Nat) : Int) * x := by
        rw [← Int.two_mul, ← Int.mul_assoc]; congr 1; omega
      by_cases e : u % 2 = 1
      · obtain ⟨K, ev⟩ := ih (u / 2) (by omega) (x + x) (o + x) (by omega)
        refine ⟨K + 1, fun k hk => ?_⟩
        obtain ⟨m, rfl⟩ : ∃ m, k = m + 1 := ⟨k - 1, by omega⟩
        simp only [sequiturref01_Times.l0]
        rw [if_pos (by omega), hm, e, if_pos (by rfl), Plus_eq, Plus_eq]
        simp only [Option.bind_some]
        rw [hw, ev m (by omega), hx, e]
        have : o + x + ((u - 1 : Nat) : Int) * x = o + u * x := by
          have : (u : Int) = ((u - 1 : Nat) : Int) + 1 := by omega
          rw [this, Int.add_mul]; omega
        rw [this]
      · obtain ⟨K, ev⟩ := ih (u / 2) (by omega) (x + x) o (by omega)
        refine ⟨K + 1, fun k hk => ?_⟩
        obtain ⟨m, rfl⟩ : ∃ m, k = m + 1 := ⟨k - 1, by omega⟩
        simp only [sequiturref01_Times.l0]
        rw [if_pos (by omega), hm, if_neg (by omega), Plus_eq]
        simp only [Option.bind_some]
        rw [hw, ev m (by omega), hx, show u % 2 = 0 by omega]; rfl
theorem Times_ev {a b : Int} (h1 : -9223372036854775808 ≤ a) (h2 : a ≤ 9223372036854775807) (h3 : -9223372036854775808 ≤ b) (h4 : b ≤ 9223372036854775807) :
    ∃ K, ∀ k, K ≤ k → sequiturref01_Times.f k a b = some (hiW (a * b), loW (a * b)) := by
  by_cases hb : b < 0
  · obtain ⟨K, ev⟩ := Times_l0 b.natAbs (-a) 0 (by omega)
    refine ⟨K + 1, fun k hk => ?_⟩
    obtain ⟨m, rfl⟩ : ∃ m, k = m + 1 := ⟨k - 1, by omega⟩
    unfold sequiturref01_Times.f
    rw [Of_eq h1 h2]
    simp only [Option.bind_some]
    rw [if_pos hb, Minus_eq]
    simp only [Option.bind_some, sequiturref01_Times.j0]
    rw [Far_eq h3 h4]
    simp only [Option.bind_some]
    have e : (0:Int) + (b.natAbs : Int) * -a = a * b := by
      rw [show (b.natAbs : Int) = -b by omega, Int.neg_mul_neg, Int.mul_comm]; omega
    rw [← e]
    have := ev m (by omega)
    rw [hiW0, loW0] at this
    exact this
  · obtain ⟨K, ev⟩ := Times_l0 b.natAbs a 0 (by omega)
    refine ⟨K + 1, fun k hk => ?_⟩
    obtain ⟨m, rfl⟩ : ∃ m, k = m + 1 := ⟨k - 1, by omega⟩
    unfold sequiturref01_Times.f
    rw [Of_eq h1 h2]
    simp only [Option.bind_some]
    rw [if_neg hb]
    simp only [sequiturref01_Times.j0]
    rw [Far_eq h3 h4]
    simp only [Option.bind_some]
    have e : (0:Int) + (b.natAbs : Int) * a = a * b := by
      rw [show (b.natAbs : Int) = b by omega, Int.mul_comm]; omega
    rw [← e]
    have := ev m (by omega)
    rw [hiW0, loW0] at this
    exact this
/-! Sums of the 64 variables' parts. -/
def sg : Nat → (Nat → Int) → Int
  | 0, _ => 0
  | n + 1, f => sg n f + f n
theorem sg_congr {n : Nat} {f g : Nat → Int} (h : ∀ i, i < n → f i = g i) : sg n f = sg n g := by
  induction n with
  | zero => rfl
  | succ n ih => simp only [sg]; rw [ih (fun i hi => h i (by omega)), h n (by omega)]
theorem sg_add (n : Nat) (f g : Nat → Int) : sg n (fun i => f i + g i) = sg n f + sg n g := by
  induction n with
  | zero => rfl
  | succ n ih => simp only [sg]; rw [ih]; omega
theorem sg_mul (n : Nat) (f : Nat → Int) (c : Int) : sg n (fun i => f i * c) = sg n f * c := by
  induction n with
  | zero => simp [sg]
  | succ n ih => simp only [sg]; rw [ih, Int.add_mul]
theorem sg_zero (n : Nat) : sg n (fun _ => 0) = 0 := by
  induction n with
  | zero => rfl
  | succ n ih => simp only [sg]; rw [ih]; rfl
theorem sg_one (n j : Nat) (hj : j < n) (c : Int) : sg n (fun i => if j = i then c else 0) = c := by
  induction n with
  | zero => omega
  | succ n ih =>
    simp only [sg]
    by_cases e : j = n
    · subst e
      rw [if_pos rfl, sg_congr (g := fun _ => 0) (fun i hi => if_neg (by omega)), sg_zero]; omega
    · rw [if_neg e, ih (by omega)]; omega
/-- How many times a variable stands in a form. -/
def coef : List S68 → Nat → Int
  | [], _ => 0
  | m :: l, v => (if m.f0 = (v : Int) then m.f1 else 0) + coef l v
theorem rightL_vars {l : List S68} (h : rightL (-1) l = true) : ∀ m ∈ l, 0 ≤ m.f0 ∧ m.f0 < 64 := fun m hm => by
  have := rightL_mem l (-1) h m hm; omega
theorem coef_none : ∀ (l : List S68) (last : Int), rightL last l = true → ∀ v : Nat, (v : Int) ≤ last → coef l v = 0 := by
  intro l
  induction l with
  | nil => intro _ _ _ _; rfl
  | cons m l ih =>
    intro last h v hv
    simp only [rightL, Bool.and_eq_true, decide_eq_true_eq] at h
    simp only [coef]
    rw [if_neg (by omega), ih m.f0 h.2 v (by omega)]; rfl
theorem coef_R64 : ∀ (l : List S68) (last : Int), rightL last l = true → M64 l → ∀ v : Nat, R64 (coef l v) := by
  intro l
  induction l with
  | nil => intro _ _ _ _; exact ⟨by simp [coef], by simp [coef]⟩
  | cons m l ih =>
    intro last h hM v
    have hr := h
    simp only [rightL, Bool.and_eq_true, decide_eq_true_eq] at h
    simp only [coef]
    by_cases e : m.f0 = (v : Int)
    · rw [if_pos e, coef_none l m.f0 h.2 v (by omega), Int.add_zero]; exact (hM m (List.mem_cons_self ..)).2
    · rw [if_neg e, Int.zero_add]; exact ih m.f0 h.2 (fun a ha => hM a (List.mem_cons_of_mem _ ha)) v
/-- The form of which the variables stand so many times. -/
def linOf (c : Nat → Int) (n : Nat) : List S68 := (List.range n).filterMap fun i => if c i = 0 then none else some ⟨(i : Int), c i⟩
theorem linOf_succ (c : Nat → Int) (n : Nat) : linOf c (n + 1) = linOf c n ++ (if c n = 0 then [] else [⟨(n : Int), c n⟩]) := by
  unfold linOf
  rw [List.range_succ, List.filterMap_append]
  congr 1
  simp only [List.filterMap_cons, List.filterMap_nil]
  split <;> simp_all
theorem linOf_mem (c : Nat → Int) : ∀ (n : Nat) (m : S68), m ∈ linOf c n → ∃ i : Nat, i < n ∧ m = ⟨(i : Int), c i⟩ ∧ c i ≠ 0 := by
  intro n
  induction n with
  | zero => intro m hm; cases hm
  | succ n ih =>
    intro m hm
    rw [linOf_succ] at hm
    rcases List.mem_append.1 hm with h | h
    · obtain ⟨i, h1, h2⟩ := ih m h; exact ⟨i, by omega, h2⟩
    · by_cases e : c n = 0
      · rw [if_pos e] at h; cases h
      · rw [if_neg e] at h; exact ⟨n, by omega, by simpa using h, e⟩
theorem rightL_append : ∀ (a : List S68) (last : Int) (m : S68), rightL last a = true → (∀ x ∈ a, x.f0 < m.f0) → last < m.f0 → m.f0 < 64 → m.f1 ≠ 0 → rightL last (a ++ [m]) = true := by
  intro a
  induction a with
  | nil => intro last m _ _ h1 h2 h3; simp [rightL, h1, h2, h3]
  | cons b a ih =>
    intro last m h hlt h1 h2 h3
    simp only [rightL, Bool.and_eq_true, List.cons_append] at h ⊢
    exact ⟨h.1, ih b.f0 m h.2 (fun x hx => hlt x (List.mem_cons_of_mem _ hx)) (hlt b (List.mem_cons_self ..)) h2 h3⟩
theorem linOf_right (c : Nat → Int) : ∀ n, n ≤ 64 → rightL (-1) (linOf c n) = true := by
  intro n
  induction n with
  | zero => intro _; rfl
  | succ n ih =>
    intro hn
    rw [linOf_succ]
    by_cases e : c n = 0
    · rw [if_pos e, List.append_nil]; exact ih (by omega)
    · rw [if_neg e]
      refine rightL_append _ _ _ (ih (by omega)) (fun x hx => ?_) (by simp only; omega) (by simp only; omega) e
      obtain ⟨i, hi, rfl, _⟩ := linOf_mem c n x hx
      simp only; omega
theorem linOf_M64 (c : Nat → Int) (n : Nat) (hn : n ≤ 64) (h : ∀ v, v < n → R64 (c v)) : M64 (linOf c n) := by
  intro m hm
  obtain ⟨i, hi, rfl, _⟩ := linOf_mem c n m hm
  exact ⟨⟨by simp only; omega, by simp only; omega⟩, h i hi⟩
theorem linOf_congr {c d : Nat → Int} {n : Nat} (h : ∀ i, i < n → c i = d i) : linOf c n = linOf d n := by
  induction n with
  | zero => rfl
  | succ n ih => rw [linOf_succ, linOf_succ, ih (fun i hi => h i (by omega)), h n (by omega)]
theorem addM_len (b : Int) (acc : List Int) (m : S68) : (addM b acc m).length = acc.length := by simp [addM]
theorem addMs_len (b : Int) (l : List S68) : ∀ acc : List Int, (l.foldl (addM b) acc).length = acc.length := by
  induction l with
  | nil => intro _; rfl
  | cons m l ih => intro acc; rw [List.foldl_cons, ih, addM_len]
theorem addM_get (b : Int) (acc : List Int) (m : S68) (v : Nat) (hv : v < acc.length) (h0 : 0 ≤ m.f0) : (addM b acc m).getD v 0 = acc.getD v 0 + (if m.f0 = (v : Int) then m.f1 else 0) * b := by
  unfold addM
  rw [List.getD_eq_getElem?_getD, List.getElem?_set, List.getD_eq_getElem?_getD, List.getD_eq_getElem?_getD]
  by_cases e : m.f0 = (v : Int)
  · have e2 : m.f0.toNat = v := by omega
    rw [if_pos e, if_pos e2, if_pos (by omega), e2]; rfl
  · rw [if_neg e, if_neg (by omega), Int.zero_mul, Int.add_zero]
theorem addMs_get (b : Int) (v : Nat) (l : List S68) : ∀ acc : List Int, v < acc.length → (∀ m ∈ l, 0 ≤ m.f0) → (l.foldl (addM b) acc).getD v 0 = acc.getD v 0 + coef l v * b := by
  induction l with
  | nil => intro acc _ _; simp [coef]
  | cons m l ih =>
    intro acc hv h
    rw [List.foldl_cons, ih _ (by rw [addM_len]; exact hv) (fun a ha => h a (List.mem_cons_of_mem _ ha)), addM_get b acc m v hv (h m (List.mem_cons_self ..))]
    simp only [coef, Int.add_mul]; omega
theorem filterMap_congr_ {α β : Type} (l : List α) (f g : α → Option β) (h : ∀ a ∈ l, f a = g a) : l.filterMap f = l.filterMap g := by
  induction l with
  | nil => rfl
  | cons a l ih =>
    rw [List.filterMap_cons, List.filterMap_cons, h a (List.mem_cons_self ..), ih (fun b hb => h b (List.mem_cons_of_mem _ hb))]
theorem fit64_R {n : Int} (h : R64 n) : fit64 n = (n, true) := by
  have h' : -9223372036854775808 ≤ n ∧ n ≤ 9223372036854775807 := h
  unfold fit64; rw [if_pos h']
theorem fit64_N {n : Int} (h : ¬ R64 n) : fit64 n = (0, false) := by
  have h' : ¬ (-9223372036854775808 ≤ n ∧ n ≤ 9223372036854775807) := h
  unfold fit64; rw [if_neg h']
/-- A variable's value, 0 where none is told. -/
def xv (x : List Int) (v : Nat) : Int := if (v : Int) < (x.length : Int) then rd x v else 0
/-- The monomials' value. -/
def valL (l : List S68) (x : List Int) : Int := l.foldl (evalStep x) 0
theorem valL_cons (m : S68) (l : List S68) (x : List Int) (h0 : 0 ≤ m.f0) : valL (m :: l) x = m.f1 * xv x m.f0.toNat + valL l x := by
  unfold valL
  rw [List.foldl_cons, evalFold_add]
  congr 1
  unfold evalStep xv
  rw [show ((m.f0.toNat : Nat) : Int) = m.f0 by omega]
  split <;> simp
theorem valL_append (a b : List S68) (x : List Int) : valL (a ++ b) x = valL a x + valL b x := by
  unfold valL
  rw [List.foldl_append, evalFold_add x b]
theorem evalSum_val (K : Int) (l : List S68) (x : List Int) : evalSum K l x = K + valL l x := evalSum_eq K l x
theorem valL_sg (x : List Int) : ∀ (l : List S68), (∀ m ∈ l, 0 ≤ m.f0 ∧ m.f0 < 64) → valL l x = sg 64 (fun v => coef l v * xv x v) := by
  intro l
  induction l with
  | nil => intro _; simp only [coef, Int.zero_mul, sg_zero]; rfl
  | cons m l ih =>
    intro h
    have hm := h m (List.mem_cons_self ..)
    rw [valL_cons m l x hm.1, ih (fun a ha => h a (List.mem_cons_of_mem _ ha))]
    simp only [coef, Int.add_mul]
    rw [sg_add]
    congr 1
    rw [sg_congr (g := fun i => if m.f0.toNat = i then m.f1 * xv x m.f0.toNat else 0) (fun i hi => ?_), sg_one 64 _ (by omega)]
    by_cases e : m.f0.toNat = i
    · rw [if_pos e, if_pos (by omega), e]
    · rw [if_neg e, if_neg (by omega), Int.zero_mul]
theorem linOf_val (c : Nat → Int) (x : List Int) : ∀ n, valL (linOf c n) x = sg n (fun v => c v * xv x v) := by
  intro n
  induction n with
  | zero => rfl
  | succ n ih =>
    rw [linOf_succ, valL_append, ih]
    simp only [sg]
    congr 1
    by_cases e : c n = 0
    · rw [if_pos e, e, Int.zero_mul]; rfl
    · rw [if_neg e, valL_cons _ _ _ (by simp only; omega)]
      simp [valL]
theorem hiW_small {p : Int} (h1 : -85070591730234615865843651857942052864 ≤ p) (h2 : p ≤ 85070591730234615865843651857942052864) : hiW p = p / 18446744073709551616 := by
  unfold hiW; exact w64 (by omega) (by omega)
def fitR (s : Int) : Int × Bool := if R64 s then (s, true) else (0, false)
theorem fitI_R (s : Int) : fitI s = fitR s := rfl
/-- How many times a variable stands in a form: what is met first. -/
def coefI : List S68 → Int → Int
  | [], _ => 0
  | m :: l, v => if m.f0 = v then m.f1 else coefI l v
theorem coefI_coef : ∀ (l : List S68) (last : Int), rightL last l = true → -1 ≤ last → ∀ v : Nat, coefI l v = coef l v := by
  intro l
  induction l with
  | nil => intro _ _ _ v; rfl
  | cons m l ih =>
    intro last h hl v
    have hr := h
    simp only [rightL, Bool.and_eq_true, decide_eq_true_eq] at h
    simp only [coefI, coef]
    by_cases e : m.f0 = (v : Int)
    · rw [if_pos e, if_pos e, coef_none l m.f0 h.2 v (by omega), Int.add_zero]
    · rw [if_neg e, if_neg e, Int.zero_add]; exact ih m.f0 h.2 (by omega) v
theorem right27_l0 (K : Int) (l : List S68) (hl : l.length ≤ 9223372036854775807) : ∀ (d i : Nat) (last : Int), l.length - i = d → i ≤ l.length →
    Ev (fun k => sequiturref27_Right.l0 k last i K l) (if rightL last (l.drop i) = true then 0 else 1) := by
  intro d
  induction d with
  | zero =>
    intro i last h1 h2
    refine Ev.succ (Ev.now fun k => ?_)
    simp only [sequiturref27_Right.l0]
    rw [if_neg (by omega), List.drop_eq_nil_of_le (by omega)]; rfl
  | succ d ih =>
    intro i last h1 h2
    have hi : i < l.length := by omega
    rw [List.drop_eq_getElem_cons hi]
    by_cases e : last < l[i].f0 ∧ l[i].f0 < 64 ∧ l[i].f1 ≠ 0
    · obtain ⟨e1, e2, e3⟩ := e
      refine Ev.succ (Ev.of (ih (i+1) l[i].f0 (by omega) (by omega)) fun k => ?_) |>.val ?_
      · simp only [sequiturref27_Right.l0]
        rw [if_pos (by omega), if_pos (by omega), rdM_at l i hi, if_neg (by omega), if_neg (by omega), if_neg e3, w64 (by omega) (by omega)]; rfl
      · simp only [rightL, decide_eq_true e1, decide_eq_true e2, decide_eq_true e3, Bool.true_and]
    · refine Ev.succ (Ev.now fun k => ?_)
      have hr : rightL last (l[i] :: l.drop (i+1)) = false := by
        simp only [rightL, Bool.and_eq_false_iff, decide_eq_false_iff_not]
        omega
      rw [hr]
      simp only [sequiturref27_Right.l0]
      rw [if_pos (by omega), if_pos (by omega), rdM_at l i hi]
      by_cases e1 : l[i].f0 ≤ last
      · rw [if_pos e1]; rfl
      by_cases e2 : l[i].f0 ≥ 64
      · rw [if_neg e1, if_pos e2]; rfl
      · rw [if_neg e1, if_neg e2, if_pos (by omega)]; rfl
theorem right27_ev (K : Int) (l : List S68) (hl : l.length ≤ 9223372036854775807) : Ev (fun k => sequiturref27_Right.f k K l) (if rightL (-1) l = true then 0 else 1) := by
  have := right27_l0 K l hl _ 0 (-1) rfl (by omega)
  exact this
/-- A total: its upper and its lower sum, and what it comes to. -/
def tv (H L : Int) : Int := H * 18446744073709551616 + L
theorem More27_ev (H L : Int) {a b : Int} (ha : R64 a) (hb : R64 b) : Ev (fun k => sequiturref27_More.f k (hiW H) (loW H) (hiW L) (loW L) a b) (hiW (H + a * b / 18446744073709551616), loW (H + a * b / 18446744073709551616), hiW (L + a * b % 18446744073709551616), loW (L + a * b % 18446744073709551616)) := by
  have hp := mul_R64 ha hb
  have ht : Ev (fun k => sequiturref01_Times.f k a b) (hiW (a * b), loW (a * b)) := Times_ev ha.1 ha.2 hb.1 hb.2
  refine Ev.bind ht (Ev.now fun k => ?_)
  generalize a * b = p at *
  simp only
  rw [hiW_small hp.1 hp.2, Of_eq (by omega) (by omega)]
  simp only [Option.bind_some]
  rw [Plus_eq]
  simp only [Option.bind_some]
  have e0 : (0 : Int) = hiW (p % 18446744073709551616) := by unfold hiW wrap64; omega
  have e1 : loW p = loW (p % 18446744073709551616) := by unfold loW; omega
  rw [e1]
  have := Plus_eq L (p % 18446744073709551616)
  rw [← e0] at this
  rw [this]; rfl
theorem TFits27_eq {H L : Int} (h1 : -1000000000000000000000000000 ≤ H) (h2 : H ≤ 1000000000000000000000000000) (h3 : 0 ≤ L) (h4 : L ≤ 1000000000000000000000000000) : sequiturref27_Fits.f (hiW H) (loW H) (hiW L) (loW L) = some (fitR (tv H L)) := by
  unfold sequiturref27_Fits.f
  have hc : hiW L = L / 18446744073709551616 := by unfold hiW; rw [w64 (by omega) (by omega)]
  rw [hc, Of_eq (by omega) (by omega)]
  simp only [Option.bind_some]
  rw [Plus_eq]
  simp only [Option.bind_some]
  rw [Fits_eq _ (by omega) (by omega), fitI_R]
  simp only [Option.bind_some]
  have ht : H + L / 18446744073709551616 = tv H L / 18446744073709551616 := by unfold tv; omega
  have hm : loW L = loW (tv H L) := by unfold loW tv; omega
  have hb1 : -3138550867693340381917894711603833208051177722232017256448 ≤ tv H L := by unfold tv; omega
  have hb2 : tv H L < 3138550867693340381917894711603833208051177722232017256448 := by unfold tv; omega
  rw [ht, hm]
  generalize tv H L = s at *
  unfold fitR
  by_cases e : R64 (s / 18446744073709551616)
  · rw [if_pos e]
    simp only [if_true]
    have e1 := e.1
    have e2 := e.2
    have hh : s / 18446744073709551616 = hiW s := by unfold hiW; rw [w64 (by omega) (by omega)]
    rw [hh, Fits_eq s (by omega) (by omega), fitI_R]
    rfl
  · rw [if_neg e]
    simp only [Bool.false_eq_true, if_false]
    rw [if_neg (fun h : R64 s => e (by have := h.1; have := h.2; exact ⟨by omega, by omega⟩))]
/-- What a place of a sum comes to: -1 the constant's, else the variable's. -/
def pt (v : Int) (q : S62) : Int := if v < 0 then q.f0 else coefI q.f1 v
def ps (v : Int) : List S158 → Int
  | [] => 0
  | x :: l => pt v x.f0 * x.f1 + ps v l
theorem coefI_R64 : ∀ (l : List S68) (v : Int), M64 l → R64 (coefI l v) := by
  intro l v
  induction l with
  | nil => intro _; exact ⟨by simp [coefI], by simp [coefI]⟩
  | cons m l ih =>
    intro hM
    simp only [coefI]
    split
    · exact (hM m (List.mem_cons_self ..)).2
    · exact ih (fun a ha => hM a (List.mem_cons_of_mem _ ha))
theorem st_tv {H L p r t : Int} (h : tv H L + (p + r) = t) : tv (H + p / 18446744073709551616) (L + p % 18446744073709551616) + r = t := by unfold tv at *; omega
theorem st_lo {i H p : Int} (b : -(i * 9223372036854775808) ≤ H) (hp : -85070591730234615865843651857942052864 ≤ p) : -((i + 1) * 9223372036854775808) ≤ H + p / 18446744073709551616 := by omega
theorem st_hi {i H p : Int} (b : H ≤ i * 9223372036854775808) (hp : p ≤ 85070591730234615865843651857942052864) : H + p / 18446744073709551616 ≤ (i + 1) * 9223372036854775808 := by omega
theorem st_nn {L p : Int} (b : 0 ≤ L) : 0 ≤ L + p % 18446744073709551616 := by omega
theorem st_up {i L p : Int} (b : L ≤ i * 18446744073709551616) : L + p % 18446744073709551616 ≤ (i + 1) * 18446744073709551616 := by omega
theorem linBy_l0 (l : List S68) (v : Int) (hlen : l.length ≤ 9223372036854775807) : ∀ (n i : Nat), l.length - i = n → i ≤ l.length → Ev (fun k => lin_By.l0 k v l (l.length : Int) i) (coefI (l.drop i) v) := by
  intro n
  induction n with
  | zero =>
    intro i h1 h2
    refine Ev.succ (Ev.now fun k => ?_)
    simp only [lin_By.l0]
    rw [if_neg (by omega), List.drop_eq_nil_of_le (by omega)]; rfl
  | succ n ih =>
    intro i h1 h2
    have hi : i < l.length := by omega
    rw [List.drop_eq_getElem_cons hi]
    by_cases e : l[i].f0 = v
    · refine Ev.succ (Ev.now fun k => ?_)
      simp only [lin_By.l0, coefI]
      rw [if_pos (by omega), if_pos (by omega), if_pos (by omega), rdM_at l i hi, if_pos e, if_pos e]
    · refine (Ev.succ (Ev.of (ih (i+1) (by omega) (by omega)) fun k => ?_)).val ?_
      · simp only [lin_By.l0]
        rw [if_pos (by omega), if_pos (by omega), if_pos (by omega), rdM_at l i hi, if_neg e, w64 (by omega) (by omega)]; rfl
      · simp only [coefI]; rw [if_neg e]
theorem linBy_ev (K : Int) (l : List S68) (v : Int) (hlen : l.length ≤ 9223372036854775807) : Ev (fun k => lin_By.f k K l v) (coefI l v) := by
  have := linBy_l0 l v hlen _ 0 rfl (by omega)
  exact this
/-- A form without a variable. -/
def lessL (l : List S68) (v : Int) : List S68 := l.filter fun m => decide (m.f0 ≠ v)
theorem lessL_right (v : Int) : ∀ (l : List S68) (last : Int), rightL last l = true → rightL last (lessL l v) = true := by
  intro l
  induction l with
  | nil => intro _ _; rfl
  | cons m l ih =>
    intro last h
    have h0 := h
    simp only [rightL, Bool.and_eq_true, decide_eq_true_eq] at h
    unfold lessL
    rw [List.filter_cons]
    by_cases e : m.f0 = v
    · rw [if_neg (by simp [e])]
      have h3 := ih m.f0 h.2
      show rightL last (lessL l v) = true
      revert h3
      cases lessL l v with
      | nil => intro _; rfl
      | cons b t =>
        intro h3
        simp only [rightL, Bool.and_eq_true, decide_eq_true_eq] at h3 ⊢
        exact ⟨⟨⟨by omega, h3.1.1.2⟩, h3.1.2⟩, h3.2⟩
    · rw [if_pos (by simp [e])]
      simp only [rightL, Bool.and_eq_true, decide_eq_true_eq]
      exact ⟨h.1, ih m.f0 h.2⟩
theorem lessL_M64 {l : List S68} (v : Int) (h : M64 l) : M64 (lessL l v) := fun m hm => h m (List.mem_filter.1 hm).1
def cf (v : Int) (q : S70) : Int := coefI q.f0.f1 v
def okI (q : S70) : Bool := !q.f1 && rightL (-1) q.f0.f1
def wrongB (l : List S70) (v : Int) : Bool := decide (v < 0) || decide (v ≥ 64) || !(l.all okI)
theorem wrong1_ev (K : Int) (l : List S68) (b : Bool) (hlen : l.length ≤ 9223372036854775807) : Ev (fun k => shadow_wrong_1.f k K l b) (!okI ⟨⟨K, l⟩, b⟩) := by
  cases b
  · refine Ev.neg (by simp) (Ev.bind (iRight_ev K l false hlen) (Ev.now fun _ => ?_))
    unfold okI
    by_cases e : rightL (-1) l = true
    · simp [e]
    · simp [e]
  · exact Ev.pos rfl (Ev.now fun _ => rfl)
theorem idx30_l0 (l : List S70) (hl : l.length ≤ 1000000) (hm : ∀ q ∈ l, q.f0.f1.length ≤ 9223372036854775807) : ∀ (d i : Nat), l.length - i = d → i ≤ l.length →
    ∃ v, Ev (fun k => api_Ineq_104.l0 k l (l.length:Int) i) v ∧ decide (v ≥ 0) = !((l.drop i).all okI) := by
  intro d
  induction d with
  | zero =>
    intro i h1 h2
    refine ⟨-1, Ev.succ (Ev.now fun k => ?_), ?_⟩
    · simp only [api_Ineq_104.l0]
      rw [if_neg (by omega)]
    · rw [List.drop_eq_nil_of_le (by omega)]; rfl
  | succ d ih =>
    intro i h1 h2
    have hi : i < l.length := by omega
    rw [List.drop_eq_getElem_cons hi]
    have hq := wrong1_ev l[i].f0.f0 l[i].f0.f1 l[i].f1 (hm _ (List.getElem_mem hi))
    obtain ⟨v, ev, hv⟩ := ih (i+1) (by omega) (by omega)
    have hs : ∀ k, api_Ineq_104.l0 (k+1) l (l.length:Int) i = (shadow_wrong_1.f k l[i].f0.f0 l[i].f0.f1 l[i].f1).bind fun t => if t = true then some (i:Int) else api_Ineq_104.l0 k l (l.length:Int) ((i+1 : Nat) : Int) := by
      intro k
      simp only [api_Ineq_104.l0]
      rw [if_pos (by omega), if_pos (by omega), if_pos (by omega), rdI_at l i hi, w64 (by omega) (by omega)]; rfl
    by_cases e : okI l[i] = true
    · rw [show (⟨⟨l[i].f0.f0, l[i].f0.f1⟩, l[i].f1⟩ : S70) = l[i] from rfl, e] at hq
      refine ⟨v, Ev.succ (Ev.of (Ev.bind hq ?_) hs), ?_⟩
      · exact Ev.of ev fun k => by simp
      · rw [hv, List.all_cons, e, Bool.true_and]
    · have e' : okI l[i] = false := by simpa using e
      rw [show (⟨⟨l[i].f0.f0, l[i].f0.f1⟩, l[i].f1⟩ : S70) = l[i] from rfl, e'] at hq
      refine ⟨i, Ev.succ (Ev.of (Ev.bind hq ?_) hs), ?_⟩
      · exact Ev.now fun k => by simp
      · rw [List.all_cons, e']; simp
theorem wrong_ev (l : List S70) (v : Int) (hl : l.length ≤ 1000000) (hm : ∀ q ∈ l, q.f0.f1.length ≤ 9223372036854775807) : Ev (fun k => shadow_wrong.f k l v) (wrongB l v) := by
  unfold wrongB
  by_cases a : v < 0
  · exact Ev.pos a (Ev.now fun _ => by rw [decide_eq_true a]; rfl)
  by_cases b : v ≥ 64
  · exact Ev.neg a (Ev.pos b (Ev.now fun _ => by rw [decide_eq_true b]; simp))
  refine Ev.neg a (Ev.neg b ?_)
  obtain ⟨u, ev, hu⟩ := idx30_l0 l hl hm _ 0 rfl (by omega)
  rw [List.drop_zero] at hu
  rw [decide_eq_false a, decide_eq_false b, Bool.false_or, Bool.false_or]
  exact Ev.bind (v := !(l.all okI)) (Ev.bind ev (Ev.now fun _ => by rw [hu])) (Ev.now fun _ => rfl)
theorem wrongB_not {l : List S70} {v : Int} (h : wrongB l v = false) : 0 ≤ v ∧ v < 64 ∧ ∀ q ∈ l, q.f1 = false ∧ rightL (-1) q.f0.f1 = true := by
  unfold wrongB at h
  simp only [Bool.or_eq_false_iff, decide_eq_false_iff_not, Bool.not_eq_false', List.all_eq_true] at h
  refine ⟨by omega, by omega, fun q hq => ?_⟩
  have := h.2 q hq
  unfold okI at this
  simpa using this
/-- Does a sign fit? -/
def sgD (s n : Int) : Bool := (decide (n < 0) && decide (s < 0)) || (decide (n > 0) && decide (s > 0)) || (decide (n = 0) && decide (s = 0))
/-- The places of those whose sign fits. -/
def bnd (s v : Int) : List S70 → Int → List Int
  | [], _ => []
  | q :: l, i => if sgD s (cf v q) = true then i :: bnd s v l (i + 1) else bnd s v l (i + 1)
theorem bnd_len (s v : Int) : ∀ (l : List S70) (i : Int), (bnd s v l i).length ≤ l.length := by
  intro l
  induction l with
  | nil => intro i; simp [bnd]
  | cons q l ih =>
    intro i
    simp only [bnd]
    have := ih (i + 1)
    split <;> simp <;> omega
theorem bnd_mem (s v : Int) : ∀ (l : List S70) (i : Int), ∀ j ∈ bnd s v l i, i ≤ j ∧ j < i + l.length ∧ ∃ h : (j - i).toNat < l.length, sgD s (cf v (l[(j - i).toNat]'h)) = true := by
  intro l
  induction l with
  | nil => intro i j hj; simp [bnd] at hj
  | cons q l ih =>
    intro i j hj
    simp only [bnd] at hj
    have key : j ∈ bnd s v l (i + 1) → i ≤ j ∧ j < i + (q :: l).length ∧ ∃ h : (j - i).toNat < (q :: l).length, sgD s (cf v ((q :: l)[(j - i).toNat]'h)) = true := by
      intro hj
      obtain ⟨h1, h2, h3, h4⟩ := ih (i + 1) j hj
      refine ⟨by omega, by simp; omega, by simp; omega, ?_⟩
      have e : (j - i).toNat = (j - (i + 1)).toNat + 1 := by omega
      simp only [e, List.getElem_cons_succ]
      exact h4
    split at hj
    · rename_i hc
      rcases List.mem_cons.1 hj with rfl | hj
      · refine ⟨by omega, by simp; omega, by simp, ?_⟩
        simpa using hc
      · exact key hj
    · exact key hj
theorem bnd_if {α : Type} (t s : Int) (X Y : α) : (if t < 0 then (if s < 0 then X else (if t > 0 then (if s > 0 then X else (if t = 0 then (if s = 0 then X else Y) else Y)) else (if t = 0 then (if s = 0 then X else Y) else Y))) else (if t > 0 then (if s > 0 then X else (if t = 0 then (if s = 0 then X else Y) else Y)) else (if t = 0 then (if s = 0 then X else Y) else Y))) = if sgD s t = true then X else Y := by
  have e : sgD s t = true ↔ (t < 0 ∧ s < 0) ∨ (t > 0 ∧ s > 0) ∨ (t = 0 ∧ s = 0) := by
    unfold sgD
    simp only [Bool.or_eq_true, Bool.and_eq_true, decide_eq_true_eq, or_assoc]
  by_cases h : sgD s t = true
  · rw [if_pos h]
    rw [e] at h
    rcases h with ⟨a, b⟩ | ⟨a, b⟩ | ⟨a, b⟩
    · rw [if_pos a, if_pos b]
    · rw [if_neg (by omega), if_pos a, if_pos b]
    · rw [if_neg (by omega), if_neg (by omega), if_pos a, if_pos b]
  · rw [if_neg h]
    rw [e] at h
    by_cases a : t < 0
    · rw [if_pos a, if_neg (by omega), if_neg (by omega), if_neg (by omega)]
    · rw [if_neg a]
      by_cases b : t > 0
      · rw [if_pos b, if_neg (by omega), if_neg (by omega)]
      · rw [if_neg b, if_pos (by omega), if_neg (by omega)]
theorem bounds_l0 (s : Int) (l : List S70) (v : Int) (hl : l.length ≤ 1000000) (hm : ∀ q ∈ l, q.f0.f1.length ≤ 9223372036854775807) : ∀ (d i : Nat) (acc : List Int), l.length - i = d → i ≤ l.length → acc.length ≤ i →
    Ev (fun k => shadow_bounds_1.l0 k s acc l (l.length : Int) i v) (acc ++ bnd s v (l.drop i) i) := by
  intro d
  induction d with
  | zero =>
    intro i acc h1 h2 ha
    rw [List.drop_eq_nil_of_le (by omega)]
    refine Ev.succ ?_
    simp only [shadow_bounds_1.l0]
    exact Ev.neg (by omega) (Ev.now fun _ => by simp [bnd])
  | succ d ih =>
    intro i acc h1 h2 ha
    have hi : i < l.length := by omega
    rw [List.drop_eq_getElem_cons hi]
    have hb := linBy_ev l[i].f0.f0 l[i].f0.f1 v (hm _ (List.getElem_mem hi))
    have hs : ∀ k, shadow_bounds_1.l0 (k+1) s acc l (l.length:Int) i v = (lin_By.f k l[i].f0.f0 l[i].f0.f1 v).bind fun t => if sgD s t = true then shadow_bounds_1.l0 k s (acc ++ [(i:Int)]) l (l.length:Int) ((i+1 : Nat) : Int) v else shadow_bounds_1.l0 k s acc l (l.length:Int) ((i+1 : Nat) : Int) v := by
      intro k
      simp only [shadow_bounds_1.l0]
      rw [if_pos (by omega), if_pos (by omega), if_pos (by omega), rdI_at l i hi, show wrap64 ((i:Int) + 1) = ((i+1 : Nat) : Int) by rw [w64 (by omega) (by omega)]; omega]
      congr 1
      funext t
      rw [if_pos (show acc.length < 17592186044416 by omega)]
      exact bnd_if t s _ _
    refine Ev.succ (Ev.of (Ev.bind hb ?_) hs)
    simp only [bnd]
    by_cases c : sgD s (cf v l[i]) = true
    · rw [if_pos c]
      refine Ev.pos c ((ih (i+1) (acc ++ [(i:Int)]) (by omega) (by omega) (by simp; omega)).val ?_)
      rw [List.append_assoc]; rfl
    · rw [if_neg c]
      refine Ev.neg c ((ih (i+1) acc (by omega) (by omega) (by omega)).val ?_)
      rfl
theorem bounds_ev (s : Int) (l : List S70) (v : Int) (hl : l.length ≤ 1000000) (hm : ∀ q ∈ l, q.f0.f1.length ≤ 9223372036854775807) : Ev (fun k => shadow_bounds_1.f k s l v) (bnd s v l 0) := by
  have := bounds_l0 s l v hl hm _ 0 [] rfl (by omega) (by simp)
  exact this
theorem long30_l0 (l : List S70) (hl : l.length ≤ 1000000) : ∀ (d i : Nat), l.length - i = d → i ≤ l.length → Ev (fun k => sequiturref30_Long.l0 k l i) (!((l.drop i).all fun q => decide (q.f0.f1.length ≤ 70))) := by
  intro d
  induction d with
  | zero =>
    intro i h1 h2
    refine Ev.succ (Ev.now fun k => ?_)
    simp only [sequiturref30_Long.l0]
    rw [if_neg (by omega), List.drop_eq_nil_of_le (by omega)]; rfl
  | succ d ih =>
    intro i h1 h2
    have hi : i < l.length := by omega
    rw [List.drop_eq_getElem_cons hi, List.all_cons]
    refine Ev.succ ?_
    simp only [sequiturref30_Long.l0]
    rw [rdI_at l i hi]
    refine Ev.pos (by omega) (Ev.pos (by omega) ?_)
    by_cases e : l[i].f0.f1.length ≤ 70
    · refine Ev.neg (by omega) (((ih (i+1) (by omega) (by omega)).of fun k => ?_).val ?_)
      · rw [w64 (by omega) (by omega)]; rfl
      · rw [decide_eq_true e, Bool.true_and]
    · refine Ev.pos (by omega) (Ev.now fun _ => ?_)
      rw [decide_eq_false e]; rfl
def longI (l : List S70) (n : Int) : Bool := decide ((l.length : Int) > n) || !(l.all fun q => decide (q.f0.f1.length ≤ 70))
theorem long30_ev (l : List S70) (n : Int) (hn : n ≤ 1000000) : Ev (fun k => sequiturref30_Long.f k l n) (longI l n) := by
  unfold longI
  by_cases e : (l.length : Int) > n
  · refine Ev.pos e (Ev.now fun _ => ?_)
    rw [decide_eq_true e]; rfl
  · refine Ev.neg e ((long30_l0 l (by omega) _ 0 rfl (by omega)).val ?_)
    rw [decide_eq_false e, List.drop_zero, Bool.false_or]
theorem longI_not {l : List S70} {n : Int} (h : longI l n = false) : (l.length : Int) ≤ n ∧ ∀ q ∈ l, q.f0.f1.length ≤ 70 := by
  unfold longI at h
  rw [Bool.or_eq_false_iff] at h
  refine ⟨by simpa using h.1, fun q hq => ?_⟩
  have h2 : (l.all fun q => decide (q.f0.f1.length ≤ 70)) = true := by simpa using h.2
  simpa using List.all_eq_true.1 h2 q hq
theorem alive30_ev : Ev (fun k => sequiturlaw30_alive.f k) true := Ev.mono 200 sequiturlaw30_alive.mono (by decide +kernel)
theorem told_eq (n : Int) (b : Bool) : num_told.f n b = some (if b = true then (n, true) else (0, false)) := by
  unfold num_told.f; split <;> rfl
theorem Sub_eq {a b : Int} (h1 : -9223372036854775808 ≤ a) (h2 : a ≤ 9223372036854775807) (h3 : -9223372036854775808 ≤ b) (h4 : b ≤ 9223372036854775807) :
    num_Sub.f a b = some (fitI (a - b)) := by
  unfold num_Sub.f
  rw [told_eq]
  simp only [Option.bind_some]
  congr 1
  unfold fitI
  by_cases h : -9223372036854775808 ≤ a - b ∧ a - b ≤ 9223372036854775807
  · rw [w64 h.1 h.2, if_pos h, show decide (a - b < a) = decide (b > 0) by rw [decide_eq_decide]; omega]; simp
  · rw [if_neg h]
    have : (decide (wrap64 (a - b) < a) == decide (b > 0)) = false := by
      rw [beq_eq_false_iff_ne, Ne, decide_eq_decide]; unfold wrap64; omega
    rw [this]; rfl
theorem Neg_eq {a : Int} (h1 : -9223372036854775808 ≤ a) (h2 : a ≤ 9223372036854775807) : num_Neg.f a = some (fitI (-a)) := by
  unfold num_Neg.f
  rw [Sub_eq (by omega) (by omega) h1 h2]
  simp only [Option.bind_some]
  rw [show (0:Int) - a = -a by omega]
theorem eval27_l0 (x : List Int) (hx : I64 x) (K : Int) (l : List S68) (hl : M64 l) (hr : rightL (-1) l = true) (hlen : l.length ≤ 1000000) (V : Int) : ∀ (n i : Nat) (H L : Int), l.length - i = n → i ≤ l.length → tv H L + valL (l.drop i) x = V →
    -((i + 1 : Nat) * 9223372036854775808 : Int) ≤ H → H ≤ (i + 1 : Nat) * 9223372036854775808 → 0 ≤ L → L ≤ (i + 1 : Nat) * 18446744073709551616 →
    Ev (fun k => sequiturref27_Eval.l0 k x i K l (hiW H) (loW H) (hiW L) (loW L)) (if (fitR V).2 = true then ((fitR V).1, 0) else (0, 5)) := by
  intro n
  induction n with
  | zero =>
    intro i H L h1 h2 hs b1 b2 b3 b4
    rw [List.drop_eq_nil_of_le (by omega), show valL [] x = 0 from rfl, Int.add_zero] at hs
    have hi6 : ((i + 1 : Nat) : Int) ≤ 1000001 := by omega
    have q1 : -1000000000000000000000000000 ≤ H := by
      have : ((i + 1 : Nat) : Int) * 9223372036854775808 ≤ 1000001 * 9223372036854775808 := Int.mul_le_mul_of_nonneg_right hi6 (by decide)
      exact Int.le_trans (Int.le_trans (by decide) (Int.neg_le_neg this)) b1
    have q2 : H ≤ 1000000000000000000000000000 := by
      have : ((i + 1 : Nat) : Int) * 9223372036854775808 ≤ 1000001 * 9223372036854775808 := Int.mul_le_mul_of_nonneg_right hi6 (by decide)
      exact Int.le_trans b2 (Int.le_trans this (by decide))
    have q4 : L ≤ 1000000000000000000000000000 := by
      have : ((i + 1 : Nat) : Int) * 18446744073709551616 ≤ 1000001 * 18446744073709551616 := Int.mul_le_mul_of_nonneg_right hi6 (by decide)
      exact Int.le_trans b4 (Int.le_trans this (by decide))
    have hf : sequiturref27_Fits.f (hiW H) (loW H) (hiW L) (loW L) = some (fitR (tv H L)) := TFits27_eq q1 q2 b3 q4
    have n1 : ¬ (i : Int) < (l.length : Int) := by clear b1 b2 b3 b4 q1 q2 q4 hf hs; omega
    clear b1 b2 b3 b4 q1 q2 q4
    rw [hs] at hf
    refine Ev.succ (Ev.now fun k => ?_)
    simp only [sequiturref27_Eval.l0]
    rw [if_neg n1, hf]
    simp only [Option.bind_some]
    by_cases c : (fitR V).2 = true
    · rw [if_pos c, if_pos c]
    · rw [if_neg c, if_neg c]
  | succ n ih =>
    intro i H L h1 h2 hs b1 b2 b3 b4
    have hi : i < l.length := by clear b1 b2 b3 b4 hs; omega
    have n1 : (i : Int) < (l.length : Int) := by clear b1 b2 b3 b4 hs; omega
    have n2 : (0 : Int) ≤ (i : Int) := Int.natCast_nonneg i
    have hw : wrap64 ((i:Int) + 1) = ((i+1 : Nat) : Int) := by clear b1 b2 b3 b4 hs; rw [w64 (by omega) (by omega)]; omega
    have hm := rightL_mem l (-1) hr _ (List.getElem_mem hi)
    have h00 : 0 ≤ l[i].f0 := by clear b1 b2 b3 b4 hs; omega
    rw [List.drop_eq_getElem_cons hi, valL_cons _ _ x h00] at hs
    have hi2 : ((i + 1 + 1 : Nat) : Int) = ((i + 1 : Nat) : Int) + 1 := by simp
    have nn : l.length - (i + 1) = n := by clear b1 b2 b3 b4 hs; omega
    have nl : i + 1 ≤ l.length := hi
    by_cases c : l[i].f0 < (x.length : Int)
    · have hxv : xv x l[i].f0.toNat = rd x l[i].f0 := by
        unfold xv
        rw [show ((l[i].f0.toNat : Nat) : Int) = l[i].f0 by clear b1 b2 b3 b4 hs; omega, if_pos c]
      rw [hxv] at hs
      have hp := mul_R64 (hl _ (List.getElem_mem hi)).2 (rd_R64 hx l[i].f0)
      have hM := More27_ev H L (hl _ (List.getElem_mem hi)).2 (rd_R64 hx l[i].f0)
      have hI := ih (i+1) (H + l[i].f1 * rd x l[i].f0 / 18446744073709551616) (L + l[i].f1 * rd x l[i].f0 % 18446744073709551616) nn nl (st_tv hs) (by rw [hi2]; exact st_lo b1 hp.1) (by rw [hi2]; exact st_hi b2 hp.2) (st_nn b3) (by rw [hi2]; exact st_up b4)
      clear b1 b2 b3 b4 hs hp
      refine Ev.succ (Ev.of (Ev.bind (g := fun k bt => sequiturref27_Eval.l0 k x ((i+1 : Nat) : Int) K l bt.1 bt.2.1 bt.2.2.1 bt.2.2.2) hM hI) fun k => ?_)
      simp only [sequiturref27_Eval.l0]
      rw [if_pos n1, if_pos n2, rdM_at l i hi, if_pos c, if_pos h00, hw]
    · have hxv : xv x l[i].f0.toNat = 0 := by
        unfold xv
        rw [show ((l[i].f0.toNat : Nat) : Int) = l[i].f0 by clear b1 b2 b3 b4 hs; omega, if_neg c]
      rw [hxv, Int.mul_zero, Int.zero_add] at hs
      have hI := ih (i+1) H L nn nl hs (by rw [hi2]; exact (by clear hs; omega)) (by rw [hi2]; exact (by clear hs; omega)) b3 (by rw [hi2]; exact (by clear hs; omega))
      clear b1 b2 b3 b4 hs
      refine Ev.succ (Ev.of hI fun k => ?_)
      simp only [sequiturref27_Eval.l0]
      rw [if_pos n1, if_pos n2, rdM_at l i hi, if_neg c, hw]
theorem refEval27_ev (K : Int) (l : List S68) (x : List Int) (hK : R64 K) (hl : M64 l) (hx : I64 x) (hlen : l.length ≤ 1000000) :
    Ev (fun k => sequiturref27_Eval.f k K l x) (if rightL (-1) l = true then (if (fit64 (evalSum K l x)).2 = true then ((fit64 (evalSum K l x)).1, 0) else (0, 5)) else (0, 1)) := by
  have hr := right27_ev K l (by omega)
  by_cases e : rightL (-1) l = true
  · rw [if_pos e] at hr ⊢
    have hM := More27_ev 0 0 hK (show R64 1 from ⟨by omega, by omega⟩)
    rw [hiW0, loW0] at hM
    have hK1 := hK.1
    have hK2 := hK.2
    have hI := eval27_l0 x hx K l hl e hlen (evalSum K l x) _ 0 (0 + K * 1 / 18446744073709551616) (0 + K * 1 % 18446744073709551616) rfl (by omega) (by
      rw [List.drop_zero, evalSum_val]
      unfold tv
      omega) (by omega) (by omega) (by omega) (by omega)
    have hfit : fitR (evalSum K l x) = fit64 (evalSum K l x) := rfl
    rw [hfit] at hI
    exact Ev.bind hr (Ev.pos rfl (Ev.bind hM hI))
  · rw [if_neg e] at hr ⊢
    exact Ev.bind hr (Ev.neg (by decide) (Ev.now fun _ => rfl))
theorem rest_l0 (K : Int) (l : List S68) (v : Int) (hlen : l.length ≤ 1000000) : ∀ (n i : Nat) (acc : List S68), l.length - i = n → i ≤ l.length → acc = lessL (l.take i) v →
    Ev (fun k => shadow_rest.l0 k v l (l.length : Int) i K acc) (K, lessL l v) := by
  intro n
  induction n with
  | zero =>
    intro i acc h1 h2 hacc
    rw [List.take_of_length_le (by omega)] at hacc
    subst hacc
    refine Ev.succ (Ev.now fun k => ?_)
    simp only [shadow_rest.l0]
    rw [if_neg (by omega)]
  | succ n ih =>
    intro i acc h1 h2 hacc
    have hi : i < l.length := by omega
    have hal : acc.length ≤ 1000000 := by
      rw [hacc]
      have := List.length_filter_le (fun m : S68 => decide (m.f0 ≠ v)) (l.take i)
      unfold lessL
      rw [List.length_take] at this
      omega
    by_cases e : l[i].f0 = v
    · refine Ev.succ (Ev.of (ih (i+1) acc (by omega) (by omega) ?_) fun k => ?_)
      · rw [hacc, List.take_succ_eq_append_getElem hi]
        unfold lessL
        rw [List.filter_append, List.filter_cons, if_neg (by simp [e])]; simp
      · simp only [shadow_rest.l0]
        rw [if_pos (by omega), if_pos (by omega), if_pos (by omega), rdM_at l i hi, if_pos e, w64 (by omega) (by omega)]; rfl
    · refine Ev.succ (Ev.of (ih (i+1) (acc ++ [l[i]]) (by omega) (by omega) ?_) fun k => ?_)
      · rw [hacc, List.take_succ_eq_append_getElem hi]
        unfold lessL
        rw [List.filter_append, List.filter_cons, if_pos (by simp [e])]; simp
      · simp only [shadow_rest.l0]
        rw [if_pos (by omega), if_pos (by omega), if_pos (by omega), rdM_at l i hi, if_neg e, if_pos (by omega), w64 (by omega) (by omega)]; rfl
theorem rest_ev (K : Int) (l : List S68) (v : Int) (hlen : l.length ≤ 1000000) : Ev (fun k => shadow_rest.f k K l v) (K, lessL l v) := by
  have := rest_l0 K l v hlen _ 0 [] rfl (by omega) rfl
  exact this
theorem lessL_len (l : List S68) (v : Int) : (lessL l v).length ≤ l.length := List.length_filter_le _ _
/-- What a form comes to without a variable. -/
def rV (v : Int) (x : List Int) (q : S70) : Int := q.f0.f0 + valL (lessL q.f0.f1 v) x
def evR (V : Int) : Int × Int := if R64 V then (V, 0) else (0, 5)
theorem evR_of (K : Int) (l : List S68) (x : List Int) : (if (fit64 (evalSum K l x)).2 = true then ((fit64 (evalSum K l x)).1, (0:Int)) else (0, 5)) = evR (K + valL l x) := by
  rw [evalSum_val]
  unfold evR
  by_cases h : R64 (K + valL l x)
  · rw [fit64_R h, if_pos rfl, if_pos h]
  · rw [fit64_N h, if_neg (by simp), if_neg h]
theorem evalRest_ev (q : S70) (v : Int) (x : List Int) (hq : R64 q.f0.f0 ∧ M64 q.f0.f1) (hr : rightL (-1) q.f0.f1 = true) (hx : I64 x) (hlen : q.f0.f1.length ≤ 1000000) : Ev (fun k => lin_Eval.f k q.f0.f0 (lessL q.f0.f1 v) x) (evR (rV v x q)) := by
  have hl := lessL_len q.f0.f1 v
  refine (Eval_ev q.f0.f0 (lessL q.f0.f1 v) x hq.1 (lessL_M64 v hq.2) hx (by omega)).val ?_
  rw [if_pos (lessL_right v _ (-1) hr), evR_of]; rfl
theorem least_eq {r by_ : Int} (hr : R64 r) (hb : R64 by_) (hn : by_ < 0) : shadow_least.f r by_ = some (ceilD r (-by_)) := by
  have h1 := hr.1
  have h2 := hr.2
  have h3 := hb.1
  unfold shadow_least.f
  rw [Neg_eq hb.1 hb.2, fitI_R]
  simp only [Option.bind_some]
  by_cases e : by_ = -9223372036854775808
  · subst e
    have hf : fitR (- -9223372036854775808) = (0, false) := by unfold fitR; rw [if_neg (fun h => by have := h.2; omega)]
    rw [hf]
    simp only [Bool.false_eq_true, if_false]
    by_cases c1 : r > 0
    · rw [if_pos c1]
      exact congrArg some (ceilD_uniq (by omega) (by omega) (by omega))
    · rw [if_neg c1]
      by_cases c2 : r = -9223372036854775808
      · rw [if_pos c2]
        exact congrArg some (ceilD_uniq (by omega) (by omega) (by omega))
      · rw [if_neg c2]
        exact congrArg some (ceilD_uniq (by omega) (by omega) (by omega))
  · have hf : fitR (-by_) = (-by_, true) := by unfold fitR; rw [if_pos (show R64 (-by_) from ⟨by omega, by omega⟩)]
    rw [hf]
    simp only [if_true]
    rw [Ceil_eq hr (by omega) (by omega)]; rfl
theorem ceilD_R64 {r d : Int} (hr : R64 r) (hd : 1 ≤ d) : R64 (ceilD r d) := by
  obtain ⟨a, b⟩ := ceil_law (K := r) hd
  have h1 := hr.1
  have h2 := hr.2
  constructor
  · by_cases c : ceilD r d ≤ 0
    · have : d * ceilD r d ≤ 1 * ceilD r d := by
        have := Int.mul_le_mul_of_nonpos_right hd c
        exact this
      omega
    · omega
  · by_cases c : 1 ≤ ceilD r d
    · have : 1 * (ceilD r d - 1) ≤ d * (ceilD r d - 1) := Int.mul_le_mul_of_nonneg_right hd (by omega)
      omega
    · omega
/-- What bounds allow, one by one. -/
def betD (v : Int) (x : List Int) : List S70 → Int → Int → Bool → Bool → Int × Int × Bool × Bool × Int
  | [], lo, up, has, is_ => (lo, up, has, is_, 0)
  | q :: t, lo, up, has, is_ =>
    if cf v q = 0 then betD v x t lo up has is_
    else if ¬ R64 (rV v x q) then (0, 0, false, false, 5)
    else if cf v q < 0 then (if has = true ∧ ¬ ceilD (rV v x q) (-cf v q) > lo then betD v x t lo up has is_ else betD v x t (ceilD (rV v x q) (-cf v q)) up true is_)
    else if ¬ R64 (-(ceilD (rV v x q) (cf v q))) then (0, 0, false, false, 5)
    else (if is_ = true ∧ ¬ -(ceilD (rV v x q) (cf v q)) < up then betD v x t lo up has is_ else betD v x t lo (-(ceilD (rV v x q) (cf v q))) has true)
def betweenD (l : List S70) (v : Int) (x : List Int) : Int × Int × Bool × Bool × Int := if wrongB l v = true then (0, 0, false, false, 1) else betD v x l 0 0 false false
section
variable (l : List S70) (v : Int) (x : List Int) (hl : l.length ≤ 1000) (hR : ∀ q ∈ l, R64 q.f0.f0 ∧ M64 q.f0.f1) (hm : ∀ q ∈ l, q.f0.f1.length ≤ 1000000) (hx : I64 x) (hr : ∀ q ∈ l, q.f1 = false ∧ rightL (-1) q.f0.f1 = true)
include hl hR hm hx hr
theorem between_l0 : ∀ (d i : Nat) (lo up : Int) (has is_ : Bool), l.length - i = d → i ≤ l.length → Ev (fun k => shadow_Between.l0 k v x lo up has is_ l (l.length : Int) i) (betD v x (l.drop i) lo up has is_) := by
  intro d
  induction d with
  | zero =>
    intro i lo up has is_ h1 h2
    rw [List.drop_eq_nil_of_le (by omega)]
    refine Ev.succ ?_
    simp only [shadow_Between.l0]
    exact Ev.neg (by omega) (Ev.now fun _ => rfl)
  | succ d ih =>
    intro i lo up has is_ h1 h2
    have hi : i < l.length := by omega
    have hq := hR _ (List.getElem_mem hi)
    have hlq := hm _ (List.getElem_mem hi)
    have hrq := (hr _ (List.getElem_mem hi)).2
    have hI := fun lo up has is_ => ih (i+1) lo up has is_ (by omega) (by omega)
    have hcR : R64 (cf v l[i]) := coefI_R64 _ v hq.2
    rw [List.drop_eq_getElem_cons hi]
    refine Ev.succ ?_
    simp only [shadow_Between.l0]
    rw [rdI_at l i hi, show wrap64 ((i:Int) + 1) = ((i+1 : Nat) : Int) by rw [w64 (by omega) (by omega)]; omega]
    refine Ev.pos (by omega) (Ev.pos (by omega) (Ev.pos (by omega) (Ev.bind (linBy_ev l[i].f0.f0 l[i].f0.f1 v (by omega)) ?_)))
    simp only [betD]
    have hcf : coefI l[i].f0.f1 v = cf v l[i] := rfl
    rw [hcf]
    by_cases c0 : cf v l[i] = 0
    · rw [if_pos c0]
      exact Ev.pos c0 (hI lo up has is_)
    rw [if_neg c0]
    refine Ev.neg c0 (Ev.bind (rest_ev l[i].f0.f0 l[i].f0.f1 v hlq) (Ev.bind (evalRest_ev l[i] v x hq hrq hx hlq) ?_))
    unfold evR
    by_cases cR : R64 (rV v x l[i])
    · rw [if_pos cR, if_neg (fun h => h cR)]
      refine Ev.pos rfl ?_
      by_cases cn : cf v l[i] < 0
      · rw [if_pos cn]
        refine Ev.pos cn ?_
        rw [least_eq cR hcR cn]
        refine Ev.bind (Ev.now fun _ => rfl) ?_
        cases has
        · rw [if_neg (by simp)]
          exact Ev.neg (by simp) (hI _ up true is_)
        · refine Ev.pos rfl ?_
          by_cases c2 : ceilD (rV v x l[i]) (-cf v l[i]) > lo
          · rw [if_neg (fun h => h.2 c2)]
            exact Ev.pos c2 (hI _ up true is_)
          · rw [if_pos ⟨rfl, c2⟩]
            exact Ev.neg c2 (hI lo up true is_)
      · rw [if_neg cn]
        refine Ev.neg cn ?_
        rw [Ceil_eq cR (by omega) hcR.2]
        refine Ev.bind (Ev.now fun _ => rfl) ?_
        have hc := ceilD_R64 cR (show (1 : Int) ≤ cf v l[i] by omega)
        simp only
        rw [Neg_eq hc.1 hc.2, fitI_R]
        refine Ev.bind (Ev.now fun _ => rfl) ?_
        unfold fitR
        by_cases cU : R64 (-(ceilD (rV v x l[i]) (cf v l[i])))
        · rw [if_pos cU, if_neg (fun h => h cU)]
          refine Ev.pos rfl ?_
          cases is_
          · rw [if_neg (by simp)]
            exact Ev.neg (by simp) (hI lo _ has true)
          · refine Ev.pos rfl ?_
            by_cases c2 : -(ceilD (rV v x l[i]) (cf v l[i])) < up
            · rw [if_neg (fun h => h.2 c2)]
              exact Ev.pos c2 (hI lo _ has true)
            · rw [if_pos ⟨rfl, c2⟩]
              exact Ev.neg c2 (hI lo up has true)
        · rw [if_neg cU, if_pos cU]
          exact Ev.neg (by simp) (Ev.now fun _ => rfl)
    · rw [if_neg cR, if_pos cR]
      exact Ev.neg (by simp) (Ev.now fun _ => rfl)
end
theorem between_ev (l : List S70) (v : Int) (x : List Int) (hl : l.length ≤ 1000) (hR : ∀ q ∈ l, R64 q.f0.f0 ∧ M64 q.f0.f1) (hm : ∀ q ∈ l, q.f0.f1.length ≤ 1000000) (hx : I64 x) : Ev (fun k => shadow_Between.f k l v x) (betweenD l v x) := by
  refine Ev.bind (wrong_ev l v (by omega) (fun q hq => Nat.le_trans (hm q hq) (by decide))) ?_
  unfold betweenD
  by_cases w : wrongB l v = true
  · rw [if_pos w]
    exact Ev.pos w (Ev.now fun _ => rfl)
  · rw [if_neg w]
    have := between_l0 l v x hl hR hm hx (wrongB_not (show wrongB l v = false by simpa using w)).2.2 _ 0 0 0 false false rfl (by omega)
    rw [List.drop_zero] at this
    exact Ev.neg w this
def shC (la lb : List S68) (low up : Int) (v : Nat) : Int := coef la v * up - coef lb v * low
def shK (ka kb low up : Int) (dark : Bool) : Int := ka * up - kb * low + (if dark = true then (-1 - low) * (up - 1) else 0)
def shadeD (ka : Int) (la : List S68) (kb : Int) (lb : List S68) (low up : Int) (dark : Bool) : Int × List S68 × Bool :=
  ((fitR (shK ka kb low up dark)).1, linOf (fun v => (fitR (shC la lb low up v)).1) 64, (fitR (shK ka kb low up dark)).2 && (List.range 64).all fun v => (fitR (shC la lb low up v)).2)
theorem subM_len (b : Int) (acc : List Int) (m : S68) : (subM b acc m).length = acc.length := by simp [subM]
theorem subM_get (b : Int) (acc : List Int) (m : S68) (v : Nat) (hv : v < acc.length) (h0 : 0 ≤ m.f0) : (subM b acc m).getD v 0 = acc.getD v 0 - (if m.f0 = (v : Int) then m.f1 else 0) * b := by
  unfold subM
  rw [List.getD_eq_getElem?_getD, List.getElem?_set, List.getD_eq_getElem?_getD, List.getD_eq_getElem?_getD]
  by_cases e : m.f0 = (v : Int)
  · have e2 : m.f0.toNat = v := by omega
    rw [if_pos e, if_pos e2, if_pos (by omega), e2]; rfl
  · rw [if_neg e, if_neg (by omega), Int.zero_mul, Int.sub_zero]
theorem subMs_get (b : Int) (v : Nat) (l : List S68) : ∀ acc : List Int, v < acc.length → (∀ m ∈ l, 0 ≤ m.f0) → (l.foldl (subM b) acc).getD v 0 = acc.getD v 0 - coef l v * b := by
  induction l with
  | nil => intro acc _ _; simp [coef]
  | cons m l ih =>
    intro acc hv h
    rw [List.foldl_cons, ih _ (by rw [subM_len]; exact hv) (fun a ha => h a (List.mem_cons_of_mem _ ha)), subM_get b acc m v hv (h m (List.mem_cons_self ..))]
    simp only [coef, Int.add_mul]; omega
theorem shadeL_get {la lb : List S68} {low up : Int} (ha : rightL (-1) la = true) (hb : rightL (-1) lb = true) (v : Nat) (hv : v < 64) : (shadeL la lb low up).getD v 0 = shC la lb low up v := by
  unfold shadeL shC
  rw [subMs_get low v lb _ (by rw [addMs_len]; simpa using hv) (fun m hm => (rightL_vars hb m hm).1), addMs_get up v la _ (by simpa using hv) (fun m hm => (rightL_vars ha m hm).1)]
  have h0 : (List.replicate 64 (0:Int)).getD v 0 = 0 := by rw [List.getD_eq_getElem?_getD, List.getElem?_replicate, if_pos hv]; rfl
  rw [h0]; omega
theorem fit192_R {s : Int} (h1 : -3138550867693340381917894711603833208051177722232017256448 ≤ s) (h2 : s < 3138550867693340381917894711603833208051177722232017256448) : fit192 s = fitR s := by
  unfold fit192; rw [wrap192_id h1 h2]; rfl
theorem shC_le {la lb : List S68} {low up : Int} (ha : rightL (-1) la = true) (hb : rightL (-1) lb = true) (hla : M64 la) (hlb : M64 lb) (hlow : R64 low) (hup : R64 up) (v : Nat) :
    -170141183460469231731687303715884105728 ≤ shC la lb low up v ∧ shC la lb low up v ≤ 170141183460469231731687303715884105728 := by
  have h1 := mul_R64 (coef_R64 la (-1) ha hla v) hup
  have h2 := mul_R64 (coef_R64 lb (-1) hb hlb v) hlow
  unfold shC
  omega
theorem shadeK_eq (ka kb low up : Int) (dark : Bool) : shadeK ka kb low up dark = shK ka kb low up dark := by
  unfold shadeK shK
  cases dark
  · simp
  · simp only [if_true]
    rw [Int.sub_mul, Int.mul_sub, Int.mul_sub]
    omega
theorem shK_le {ka kb low up : Int} {dark : Bool} (hka : R64 ka) (hkb : R64 kb) (hlow : R64 low) (hup : R64 up) :
    -680564733841876926926749214863536422912 ≤ shK ka kb low up dark ∧ shK ka kb low up dark ≤ 680564733841876926926749214863536422912 := by
  rw [← shadeK_eq]
  have h1 := mul_R64 hka hup
  have h2 := mul_R64 hkb hlow
  have h3 := mul_R64 hlow hup
  have h4 := hlow.1
  have h5 := hlow.2
  have h6 := hup.1
  have h7 := hup.2
  unfold shadeK
  generalize ka * up = p at *
  generalize kb * low = q at *
  generalize low * up = r at *
  split <;> omega
theorem shade_ev {ka : Int} {la : List S68} {kb : Int} {lb : List S68} (v : Int) (dark : Bool) (hka : R64 ka) (hkb : R64 kb) (hla : M64 la) (hlb : M64 lb) (ha : rightL (-1) la = true) (hb : rightL (-1) lb = true) :
    Ev (fun k => shadow_shade.f k ka la kb lb v dark) (shadeD ka la kb lb (coefI la v) (coefI lb v) dark) := by
  have na := rightL_len la (-1) (by omega) ha
  have nb := rightL_len lb (-1) (by omega) hb
  have hlow := coefI_R64 la v hla
  have hup := coefI_R64 lb v hlb
  refine Ev.bind (linBy_ev ka la v (by omega)) (Ev.bind (linBy_ev kb lb v (by omega)) ?_)
  have hgood : ∀ l : List S68, M64 l → rightL (-1) l = true → l.all goodM = true := by
    intro l hM hr
    rw [List.all_eq_true]
    intro m hm
    have := rightL_vars hr m hm
    simp only [goodM, Bool.and_eq_true, decide_eq_true_eq]
    exact ⟨this, in64_of (hM m hm).2⟩
  refine Ev.pos (by rw [in64_of hka, in64_of hkb, in64_of hlow, in64_of hup, hgood la hla ha, hgood lb hlb hb]; rfl) (Ev.now fun _ => ?_)
  have hk := shK_le (dark := dark) hka hkb hlow hup
  have eK : fit192 (shadeK ka kb (coefI la v) (coefI lb v) dark) = fitR (shK ka kb (coefI la v) (coefI lb v) dark) := by
    rw [shadeK_eq]; exact fit192_R (by omega) (by omega)
  have eC : ∀ i, i < 64 → fit192 ((shadeL la lb (coefI la v) (coefI lb v)).getD i 0) = fitR (shC la lb (coefI la v) (coefI lb v) i) := by
    intro i hi
    have hc := shC_le ha hb hla hlb hlow hup i
    rw [shadeL_get ha hb i hi]
    exact fit192_R (by omega) (by omega)
  have e1 : sumOut (shadeL la lb (coefI la v) (coefI lb v)) 64 = linOf (fun i => (fitR (shC la lb (coefI la v) (coefI lb v) i)).1) 64 := by
    unfold sumOut linOf
    refine filterMap_congr_ _ _ _ fun i hi => ?_
    rw [eC i (List.mem_range.1 hi)]
  have e2 : ((List.range 64).all fun i => (fit192 ((shadeL la lb (coefI la v) (coefI lb v)).getD i 0)).2) = ((List.range 64).all fun i => (fitR (shC la lb (coefI la v) (coefI lb v) i)).2) := by
    rw [Bool.eq_iff_iff, List.all_eq_true, List.all_eq_true]
    constructor
    · intro hh i hi
      have := hh i hi
      rwa [eC i (List.mem_range.1 hi)] at this
    · intro hh i hi
      have := hh i hi
      rwa [eC i (List.mem_range.1 hi)]
  unfold shadeD sumOk
  rw [eK, e1, e2]
def goP {β : Type} (mk : S70 → Int → Int → β) (l : List S70) (v : Int) (dark : Bool) : List (Int × Int) → List β → List β × Int
  | [], acc => (acc, 0)
  | p :: ps, acc => if (shadeD (rd_T70 l p.1).f0.f0 (rd_T70 l p.1).f0.f1 (rd_T70 l p.2).f0.f0 (rd_T70 l p.2).f0.f1 (cf v (rd_T70 l p.1)) (cf v (rd_T70 l p.2)) dark).2.2 = true then goP mk l v dark ps (acc ++ [mk ⟨⟨(shadeD (rd_T70 l p.1).f0.f0 (rd_T70 l p.1).f0.f1 (rd_T70 l p.2).f0.f0 (rd_T70 l p.2).f0.f1 (cf v (rd_T70 l p.1)) (cf v (rd_T70 l p.2)) dark).1, (shadeD (rd_T70 l p.1).f0.f0 (rd_T70 l p.1).f0.f1 (rd_T70 l p.2).f0.f0 (rd_T70 l p.2).f0.f1 (cf v (rd_T70 l p.1)) (cf v (rd_T70 l p.2)) dark).2.1⟩, false⟩ p.1 p.2]) else ([], 5)
def nonesD {β : Type} (mk : S70 → Int → Int → β) (l : List S70) (v : Int) : List β := (bnd 0 v l 0).map fun i => mk (rd_T70 l i) i i
def pairsD (l : List S70) (v : Int) : List (Int × Int) := (bnd (-1) v l 0).flatMap fun i => (bnd 1 v l 0).map fun k => (i, k)
def castD {β : Type} (mk : S70 → Int → Int → β) (l : List S70) (v : Int) (dark : Bool) : List β × Int :=
  if wrongB l v = true then ([], 1) else if ((bnd 0 v l 0).length : Int) + (bnd (-1) v l 0).length * (bnd 1 v l 0).length > 1024 then ([], 2) else goP mk l v dark (pairsD l v) (nonesD mk l v)
theorem bnd_at {s v : Int} {l : List S70} {j : Int} (h : j ∈ bnd s v l 0) : 0 ≤ j ∧ j < l.length ∧ ∃ h : j.toNat < l.length, rd_T70 l j = l[j.toNat] ∧ sgD s (cf v (l[j.toNat]'h)) = true := by
  obtain ⟨h1, h2, h3, h4⟩ := bnd_mem s v l 0 j h
  rw [Int.sub_zero] at h3
  refine ⟨h1, by omega, h3, by simp [rd_T70, h3], ?_⟩
  have e : (j - 0).toNat = j.toNat := by rw [Int.sub_zero]
  simp only [e] at h4
  exact h4
section
variable (l : List S70) (v : Int) (dark : Bool) (hl : l.length ≤ 1000) (hR : ∀ q ∈ l, R64 q.f0.f0 ∧ M64 q.f0.f1) (hr : ∀ q ∈ l, q.f1 = false ∧ rightL (-1) q.f0.f1 = true)
include hl hR hr
theorem all_l2 (R : List S72 × Int) (i : Int) (hi : i ∈ bnd (-1) v l 0) (rest : List (Int × Int)) (L : List Int) (p1 : Int) (HH : ∀ acc : List S72, acc.length + rest.length ≤ 2000000 → Ev (fun k => shadow_all.l1 k l v dark (bnd 1 v l 0) acc L (L.length : Int) p1) (goP S72.mk l v dark rest acc)) (p : Int) (hp : wrap64 (p + 1) = p1) :
    ∀ (d j : Nat) (acc : List S72), (bnd 1 v l 0).length - j = d → j ≤ (bnd 1 v l 0).length → acc.length + (((bnd 1 v l 0).drop j).map fun k => (i, k)).length + rest.length ≤ 2000000 →
    Ev (fun k => shadow_all.l2 k l v dark (bnd 1 v l 0) acc i L (L.length : Int) p (bnd 1 v l 0) ((bnd 1 v l 0).length : Int) j) (goP S72.mk l v dark ((((bnd 1 v l 0).drop j).map fun k => (i, k)) ++ rest) acc) := by
  have hbl := bnd_len 1 v l 0
  obtain ⟨i0, i1, i2, i3, i4⟩ := bnd_at hi
  intro d
  induction d with
  | zero =>
    intro j acc h1 h2 h3
    rw [List.drop_eq_nil_of_le (by omega)] at h3 ⊢
    refine Ev.succ ?_
    simp only [shadow_all.l2]
    refine Ev.neg (by omega) ?_
    rw [hp]
    exact HH acc (by simpa using h3)
  | succ d ih =>
    intro j acc h1 h2 h3
    have hj : j < (bnd 1 v l 0).length := by omega
    rw [List.drop_eq_getElem_cons hj] at h3 ⊢
    rw [List.map_cons, List.cons_append]
    simp only [List.map_cons, List.length_cons] at h3
    have hm : (bnd 1 v l 0)[j] ∈ bnd 1 v l 0 := List.getElem_mem hj
    obtain ⟨k0, k1, k2, k3, k4⟩ := bnd_at hm
    have hrd : rd (bnd 1 v l 0) (j : Int) = (bnd 1 v l 0)[j] := rd_at _ j hj
    have qi := hR _ (List.getElem_mem i2)
    have qk := hR _ (List.getElem_mem k2)
    have ri := (hr _ (List.getElem_mem i2)).2
    have rk := (hr _ (List.getElem_mem k2)).2
    rw [← i3] at qi ri
    rw [← k3] at qk rk
    have hs := shade_ev (ka := (rd_T70 l i).f0.f0) (kb := (rd_T70 l (bnd 1 v l 0)[j]).f0.f0) v dark qi.1 qk.1 qi.2 qk.2 ri rk
    refine Ev.succ ?_
    simp only [shadow_all.l2]
    rw [hrd, show wrap64 ((j:Int) + 1) = ((j+1 : Nat) : Int) by rw [w64 (by omega) (by omega)]; omega]
    refine Ev.pos (by omega) (Ev.pos (by omega) (Ev.pos (by omega) (Ev.pos i0 (Ev.pos i1 (Ev.pos k0 (Ev.pos k1 (Ev.bind hs ?_)))))))
    simp only [goP]
    by_cases c : (shadeD (rd_T70 l i).f0.f0 (rd_T70 l i).f0.f1 (rd_T70 l (bnd 1 v l 0)[j]).f0.f0 (rd_T70 l (bnd 1 v l 0)[j]).f0.f1 (coefI (rd_T70 l i).f0.f1 v) (coefI (rd_T70 l (bnd 1 v l 0)[j]).f0.f1 v) dark).2.2 = true
    · rw [if_pos (show (shadeD (rd_T70 l i).f0.f0 (rd_T70 l i).f0.f1 (rd_T70 l (bnd 1 v l 0)[j]).f0.f0 (rd_T70 l (bnd 1 v l 0)[j]).f0.f1 (cf v (rd_T70 l i)) (cf v (rd_T70 l (bnd 1 v l 0)[j])) dark).2.2 = true from c)]
      refine Ev.pos c (Ev.pos (by omega) ?_)
      exact ih (j+1) _ (by omega) (by omega) (by simp only [List.length_append, List.length_cons, List.length_nil]; omega)
    · rw [if_neg (show ¬ (shadeD (rd_T70 l i).f0.f0 (rd_T70 l i).f0.f1 (rd_T70 l (bnd 1 v l 0)[j]).f0.f0 (rd_T70 l (bnd 1 v l 0)[j]).f0.f1 (cf v (rd_T70 l i)) (cf v (rd_T70 l (bnd 1 v l 0)[j])) dark).2.2 = true from c)]
      exact Ev.neg c (Ev.now fun _ => rfl)
theorem all_l1 : ∀ (d j : Nat) (acc : List S72), (bnd (-1) v l 0).length - j = d → j ≤ (bnd (-1) v l 0).length → acc.length + (((bnd (-1) v l 0).drop j).flatMap fun i => (bnd 1 v l 0).map fun k => (i, k)).length ≤ 2000000 →
    Ev (fun k => shadow_all.l1 k l v dark (bnd 1 v l 0) acc (bnd (-1) v l 0) ((bnd (-1) v l 0).length : Int) j) (goP S72.mk l v dark (((bnd (-1) v l 0).drop j).flatMap fun i => (bnd 1 v l 0).map fun k => (i, k)) acc) := by
  have hbl := bnd_len (-1) v l 0
  intro d
  induction d with
  | zero =>
    intro j acc h1 h2 h3
    rw [List.drop_eq_nil_of_le (by omega)]
    refine Ev.succ ?_
    simp only [shadow_all.l1]
    exact Ev.neg (by omega) (Ev.now fun _ => rfl)
  | succ d ih =>
    intro j acc h1 h2 h3
    have hj : j < (bnd (-1) v l 0).length := by omega
    rw [List.drop_eq_getElem_cons hj, List.flatMap_cons] at h3 ⊢
    rw [List.length_append] at h3
    have hrd : rd (bnd (-1) v l 0) (j : Int) = (bnd (-1) v l 0)[j] := rd_at _ j hj
    refine Ev.succ ?_
    simp only [shadow_all.l1]
    rw [hrd]
    refine Ev.pos (by omega) (Ev.pos (by omega) (Ev.pos (by omega) ?_))
    have := all_l2 l v dark hl hR hr (goP S72.mk l v dark (((bnd (-1) v l 0).drop (j+1)).flatMap fun i => (bnd 1 v l 0).map fun k => (i, k)) acc) (bnd (-1) v l 0)[j] (List.getElem_mem hj) (((bnd (-1) v l 0).drop (j+1)).flatMap fun i => (bnd 1 v l 0).map fun k => (i, k)) (bnd (-1) v l 0) ((j+1 : Nat) : Int) (fun acc' ha => ih (j+1) acc' (by omega) (by omega) ha) j (by rw [w64 (by omega) (by omega)]; omega) _ 0 acc rfl (by omega) (by rw [List.drop_zero]; omega)
    rw [List.drop_zero] at this
    exact this
theorem all_l0 (hlen : ((bnd (-1) v l 0).flatMap fun i => (bnd 1 v l 0).map fun k => (i, k)).length ≤ 1000000) : ∀ (d j : Nat) (acc : List S72), (bnd 0 v l 0).length - j = d → j ≤ (bnd 0 v l 0).length → acc.length ≤ j →
    Ev (fun k => shadow_all.l0 k l v dark (bnd (-1) v l 0) (bnd 1 v l 0) acc (bnd 0 v l 0) ((bnd 0 v l 0).length : Int) j) (goP S72.mk l v dark (pairsD l v) (acc ++ ((bnd 0 v l 0).drop j).map fun i => S72.mk (rd_T70 l i) i i)) := by
  have hbl := bnd_len 0 v l 0
  intro d
  induction d with
  | zero =>
    intro j acc h1 h2 h3
    rw [List.drop_eq_nil_of_le (by omega)]
    refine Ev.succ ?_
    simp only [shadow_all.l0]
    refine Ev.neg (by omega) ?_
    have := all_l1 l v dark hl hR hr _ 0 acc rfl (by omega) (by rw [List.drop_zero]; omega)
    rw [List.drop_zero] at this
    refine this.val ?_
    simp [pairsD]
  | succ d ih =>
    intro j acc h1 h2 h3
    have hj : j < (bnd 0 v l 0).length := by omega
    rw [List.drop_eq_getElem_cons hj, List.map_cons]
    have hrd : rd (bnd 0 v l 0) (j : Int) = (bnd 0 v l 0)[j] := rd_at _ j hj
    obtain ⟨k0, k1, k2, k3, k4⟩ := bnd_at (List.getElem_mem hj)
    refine Ev.succ ?_
    simp only [shadow_all.l0]
    rw [hrd, show wrap64 ((j:Int) + 1) = ((j+1 : Nat) : Int) by rw [w64 (by omega) (by omega)]; omega]
    refine Ev.pos (by omega) (Ev.pos (by omega) (Ev.pos (by omega) (Ev.pos k0 (Ev.pos k1 (Ev.pos (by omega) ?_)))))
    refine (ih (j+1) _ (by omega) (by omega) (by simp; omega)).val ?_
    rw [List.append_assoc]; rfl
end
theorem flat_len (l : List S70) (v : Int) : ((bnd (-1) v l 0).flatMap fun i => (bnd 1 v l 0).map fun k => (i, k)).length = (bnd (-1) v l 0).length * (bnd 1 v l 0).length := by
  rw [List.length_flatMap]
  simp only [List.length_map, List.map_const', List.sum_replicate_nat]
theorem all_ev (l : List S70) (v : Int) (dark : Bool) (hl : l.length ≤ 1000) (hR : ∀ q ∈ l, R64 q.f0.f0 ∧ M64 q.f0.f1) (hm : ∀ q ∈ l, q.f0.f1.length ≤ 9223372036854775807) : Ev (fun k => shadow_all.f k l v dark) (castD S72.mk l v dark) := by
  have b0 := bnd_len 0 v l 0
  have b1 := bnd_len (-1) v l 0
  have b2 := bnd_len 1 v l 0
  have hmul : (bnd (-1) v l 0).length * (bnd 1 v l 0).length ≤ 1000 * 1000 := Nat.mul_le_mul (by omega) (by omega)
  refine Ev.bind (wrong_ev l v (by omega) hm) ?_
  unfold castD
  by_cases w : wrongB l v = true
  · rw [if_pos w]
    exact Ev.pos w (Ev.now fun _ => rfl)
  · rw [if_neg w]
    refine Ev.neg w (Ev.bind (bounds_ev 0 l v (by omega) hm) (Ev.bind (bounds_ev (-1) l v (by omega) hm) (Ev.bind (bounds_ev 1 l v (by omega) hm) ?_)))
    have hcast : ((bnd (-1) v l 0).length : Int) * (bnd 1 v l 0).length = (((bnd (-1) v l 0).length * (bnd 1 v l 0).length : Nat) : Int) := by simp
    have hw : wrap64 (((bnd 0 v l 0).length : Int) + (wrap64 (((bnd (-1) v l 0).length : Int) * ((bnd 1 v l 0).length : Int)))) = ((bnd 0 v l 0).length : Int) + (bnd (-1) v l 0).length * (bnd 1 v l 0).length := by
      rw [hcast]
      generalize (bnd (-1) v l 0).length * (bnd 1 v l 0).length = M at *
      rw [w64 (n := (M : Int)) (by omega) (by omega), w64 (by omega) (by omega)]
    rw [hw]
    by_cases c : ((bnd 0 v l 0).length : Int) + (bnd (-1) v l 0).length * (bnd 1 v l 0).length > 1024
    · rw [if_pos c]
      exact Ev.pos c (Ev.now fun _ => rfl)
    · rw [if_neg c]
      have hr := (wrongB_not (show wrongB l v = false by simpa using w)).2.2
      refine Ev.neg c ?_
      have := all_l0 l v dark hl hR hr (by rw [flat_len]; omega) _ 0 [] rfl (by omega) (by simp)
      rw [List.drop_zero, List.nil_append] at this
      exact this
theorem real_ev (l : List S70) (v : Int) (hl : l.length ≤ 1000) (hR : ∀ q ∈ l, R64 q.f0.f0 ∧ M64 q.f0.f1) (hm : ∀ q ∈ l, q.f0.f1.length ≤ 9223372036854775807) : Ev (fun k => shadow_Real.f k l v) (castD S72.mk l v false) := Ev.bind (all_ev l v false hl hR hm) (Ev.now fun _ => rfl)
theorem dark_ev (l : List S70) (v : Int) (hl : l.length ≤ 1000) (hR : ∀ q ∈ l, R64 q.f0.f0 ∧ M64 q.f0.f1) (hm : ∀ q ∈ l, q.f0.f1.length ≤ 9223372036854775807) : Ev (fun k => shadow_Dark.f k l v) (castD S72.mk l v true) := Ev.bind (all_ev l v true hl hR hm) (Ev.now fun _ => rfl)
theorem bnd_map (s v : Int) (l : List S70) : ∀ (d i : Nat), l.length - i = d → i ≤ l.length → (bnd s v (l.drop i) i).map (rd_T70 l) = (l.drop i).filter fun q => sgD s (cf v q) := by
  intro d
  induction d with
  | zero => intro i h1 h2; rw [List.drop_eq_nil_of_le (by omega)]; rfl
  | succ d ih =>
    intro i h1 h2
    have hi : i < l.length := by omega
    rw [List.drop_eq_getElem_cons hi, List.filter_cons]
    have e : ((i + 1 : Nat) : Int) = (i : Int) + 1 := by omega
    have hI := ih (i+1) (by omega) (by omega)
    rw [e] at hI
    simp only [bnd]
    by_cases c : sgD s (cf v l[i]) = true
    · rw [if_pos c, if_pos c, List.map_cons, rdI_at l i hi, hI]
    · rw [if_neg c, if_neg c, hI]
theorem bnd_filter (s v : Int) (l : List S70) : (bnd s v l 0).map (rd_T70 l) = l.filter fun q => sgD s (cf v q) := by
  have := bnd_map s v l _ 0 rfl (by omega)
  rwa [List.drop_zero] at this
def exD (l : List S70) (v : Int) : Bool := !((l.any fun q => decide (cf v q < -1)) && l.any fun q => decide (cf v q > 1))
section
variable (l : List S70) (v : Int) (hl : l.length ≤ 1000) (hm : ∀ q ∈ l, q.f0.f1.length ≤ 1000000)
include hl hm
theorem exact_l1 (R : Bool) (i : Int) (hi : i ∈ bnd (-1) v l 0) (L : List Int) (n p : Int) (HH : Ev (fun k => shadow_Exact.l0 k l v L n (wrap64 (p + 1)) l v) R) : ∀ (d j : Nat), (bnd 1 v l 0).length - j = d → j ≤ (bnd 1 v l 0).length →
    Ev (fun k => shadow_Exact.l1 k l v i L n p (bnd 1 v l 0) ((bnd 1 v l 0).length : Int) j l v) (if (decide (cf v (rd_T70 l i) ≠ -1) && ((bnd 1 v l 0).drop j).any fun k => decide (cf v (rd_T70 l k) ≠ 1)) = true then false else R) := by
  have hbl := bnd_len 1 v l 0
  obtain ⟨i0, i1, i2, i3, i4⟩ := bnd_at hi
  have mi := hm _ (List.getElem_mem i2)
  rw [← i3] at mi
  intro d
  induction d with
  | zero =>
    intro j h1 h2
    rw [List.drop_eq_nil_of_le (by omega)]
    refine Ev.succ ?_
    simp only [shadow_Exact.l1]
    exact Ev.neg (by omega) (HH.val (by simp))
  | succ d ih =>
    intro j h1 h2
    have hj : j < (bnd 1 v l 0).length := by omega
    obtain ⟨k0, k1, k2, k3, k4⟩ := bnd_at (List.getElem_mem hj)
    have mk := hm _ (List.getElem_mem k2)
    rw [← k3] at mk
    have hrd : rd (bnd 1 v l 0) (j : Int) = (bnd 1 v l 0)[j] := rd_at _ j hj
    have hI := ih (j+1) (by omega) (by omega)
    rw [List.drop_eq_getElem_cons hj, List.any_cons]
    refine Ev.succ ?_
    simp only [shadow_Exact.l1]
    rw [hrd, show wrap64 ((j:Int) + 1) = ((j+1 : Nat) : Int) by rw [w64 (by omega) (by omega)]; omega]
    refine Ev.pos (by omega) (Ev.pos (by omega) (Ev.pos (by omega) (Ev.pos i0 (Ev.pos i1 (Ev.bind (linBy_ev (rd_T70 l i).f0.f0 (rd_T70 l i).f0.f1 v (by omega)) ?_)))))
    by_cases c1 : coefI (rd_T70 l i).f0.f1 v = -1
    · refine (Ev.pos c1 hI).val ?_
      rw [decide_eq_false (show ¬ cf v (rd_T70 l i) ≠ -1 from fun h => h c1)]; simp
    · refine Ev.neg c1 (Ev.pos k0 (Ev.pos k1 (Ev.bind (linBy_ev (rd_T70 l (bnd 1 v l 0)[j]).f0.f0 (rd_T70 l (bnd 1 v l 0)[j]).f0.f1 v (by omega)) ?_)))
      by_cases c2 : coefI (rd_T70 l (bnd 1 v l 0)[j]).f0.f1 v = 1
      · refine (Ev.pos c2 hI).val ?_
        rw [decide_eq_false (show ¬ cf v (rd_T70 l (bnd 1 v l 0)[j]) ≠ 1 from fun h => h c2), Bool.false_or]
      · refine Ev.neg c2 (Ev.now fun _ => ?_)
        rw [decide_eq_true (show cf v (rd_T70 l i) ≠ -1 from c1), decide_eq_true (show cf v (rd_T70 l (bnd 1 v l 0)[j]) ≠ 1 from c2)]; rfl
theorem exact_l0 : ∀ (d j : Nat), (bnd (-1) v l 0).length - j = d → j ≤ (bnd (-1) v l 0).length →
    Ev (fun k => shadow_Exact.l0 k l v (bnd (-1) v l 0) ((bnd (-1) v l 0).length : Int) j l v) (!((((bnd (-1) v l 0).drop j).any fun i => decide (cf v (rd_T70 l i) ≠ -1)) && (bnd 1 v l 0).any fun k => decide (cf v (rd_T70 l k) ≠ 1))) := by
  have hbl := bnd_len (-1) v l 0
  intro d
  induction d with
  | zero =>
    intro j h1 h2
    rw [List.drop_eq_nil_of_le (by omega)]
    refine Ev.succ ?_
    simp only [shadow_Exact.l0]
    exact Ev.neg (by omega) (Ev.now fun _ => by simp)
  | succ d ih =>
    intro j h1 h2
    have hj : j < (bnd (-1) v l 0).length := by omega
    have hrd : rd (bnd (-1) v l 0) (j : Int) = (bnd (-1) v l 0)[j] := rd_at _ j hj
    have hI := ih (j+1) (by omega) (by omega)
    rw [List.drop_eq_getElem_cons hj, List.any_cons]
    refine Ev.succ ?_
    simp only [shadow_Exact.l0]
    rw [hrd]
    refine Ev.pos (by omega) (Ev.pos (by omega) (Ev.pos (by omega) (Ev.bind (bounds_ev 1 l v (by omega) (fun q hq => Nat.le_trans (hm q hq) (by decide))) ?_)))
    have := exact_l1 l v hl hm _ (bnd (-1) v l 0)[j] (List.getElem_mem hj) (bnd (-1) v l 0) ((bnd (-1) v l 0).length : Int) j (by rw [show wrap64 ((j:Int) + 1) = ((j+1 : Nat) : Int) by rw [w64 (by omega) (by omega)]; omega]; exact hI) _ 0 rfl (by omega)
    rw [List.drop_zero] at this
    refine this.val ?_
    generalize decide (cf v (rd_T70 l (bnd (-1) v l 0)[j]) ≠ -1) = x
    generalize ((bnd 1 v l 0).any fun k => decide (cf v (rd_T70 l k) ≠ 1)) = y
    generalize (((bnd (-1) v l 0).drop (j+1)).any fun i => decide (cf v (rd_T70 l i) ≠ -1)) = z
    cases x <;> cases y <;> cases z <;> rfl
theorem exact_ev : Ev (fun k => shadow_Exact.f k l v) (exD l v) := by
  have h := exact_l0 l v hl hm _ 0 rfl (by omega)
  rw [List.drop_zero] at h
  refine Ev.bind (bounds_ev (-1) l v (by omega) (fun q hq => Nat.le_trans (hm q hq) (by decide))) (h.val ?_)
  unfold exD
  have e1 : ((bnd (-1) v l 0).any fun i => decide (cf v (rd_T70 l i) ≠ -1)) = l.any fun q => decide (cf v q < -1) := by
    have : ((bnd (-1) v l 0).any fun i => decide (cf v (rd_T70 l i) ≠ -1)) = ((bnd (-1) v l 0).map (rd_T70 l)).any fun q => decide (cf v q ≠ -1) := by rw [List.any_map]; rfl
    rw [this, bnd_filter, List.any_filter]
    congr 1
    funext q
    generalize cf v q = t
    unfold sgD
    by_cases c : t < -1
    · rw [decide_eq_true c]; simp; omega
    · rw [decide_eq_false c]; simp; omega
  have e2 : ((bnd 1 v l 0).any fun k => decide (cf v (rd_T70 l k) ≠ 1)) = l.any fun q => decide (cf v q > 1) := by
    have : ((bnd 1 v l 0).any fun i => decide (cf v (rd_T70 l i) ≠ 1)) = ((bnd 1 v l 0).map (rd_T70 l)).any fun q => decide (cf v q ≠ 1) := by rw [List.any_map]; rfl
    rw [this, bnd_filter, List.any_filter]
    congr 1
    funext q
    generalize cf v q = t
    unfold sgD
    by_cases c : t > 1
    · rw [decide_eq_true c]; simp; omega
    · rw [decide_eq_false c]; simp; omega
  rw [e1, e2]
end
theorem coefI_none : ∀ (l : List S68) (last : Int), rightL last l = true → ∀ v : Int, v ≤ last → coefI l v = 0 := by
  intro l
  induction l with
  | nil => intro _ _ _ _; rfl
  | cons m l ih =>
    intro last h v hv
    simp only [rightL, Bool.and_eq_true, decide_eq_true_eq] at h
    simp only [coefI]
    rw [if_neg (by omega), ih m.f0 h.2 v (by omega)]
theorem xv_set (x : List Int) (n : Nat) (c : Int) (hn : n < x.length) (u : Nat) : xv (x.set n c) u = if u = n then c else xv x u := by
  unfold xv
  rw [List.length_set]
  by_cases e : u = n
  · subst e
    rw [if_pos rfl, if_pos (by omega), rd_at _ u (by rw [List.length_set]; exact hn)]
    simp
  · rw [if_neg e]
    by_cases h : u < x.length
    · rw [if_pos (by omega), if_pos (by omega), rd_at _ u (by rw [List.length_set]; exact h), rd_at _ u h, List.getElem_set_ne (by omega)]
    · rw [if_neg (by omega), if_neg (by omega)]
theorem valL_set (x : List Int) (n : Nat) (c : Int) (hn : n < x.length) : ∀ (l : List S68) (last : Int), rightL last l = true → -1 ≤ last → valL l (x.set n c) = valL (lessL l n) x + coefI l n * c := by
  intro l
  induction l with
  | nil => intro _ _ _; simp [lessL, coefI, valL]
  | cons m l ih =>
    intro last h hl
    simp only [rightL, Bool.and_eq_true, decide_eq_true_eq] at h
    have hI := ih m.f0 h.2 (by omega)
    rw [valL_cons m l _ (by omega), hI, xv_set x n c hn]
    simp only [coefI]
    unfold lessL
    rw [List.filter_cons]
    by_cases e : m.f0 = (n : Int)
    · rw [if_pos e, if_pos (by omega), if_neg (by simp [e]), coefI_none l m.f0 h.2 n (by omega), Int.zero_mul]
      omega
    · rw [if_neg e, if_neg (by omega), if_pos (by simp [e]), valL_cons m _ x (by omega)]
      omega
def smQ (q : S70) : Prop := q.f1 = false ∧ rightL (-1) q.f0.f1 = true ∧ (-1000 ≤ q.f0.f0 ∧ q.f0.f0 ≤ 1000) ∧ ∀ m ∈ q.f0.f1, -100 ≤ m.f1 ∧ m.f1 ≤ 100
def smX (x : List Int) : Prop := ∀ n ∈ x, -1000 ≤ n ∧ n ≤ 1000
theorem small_l2 (x : List Int) (hl : x.length ≤ 1000) : ∀ (d i : Nat), x.length - i = d → i ≤ x.length → ∃ b, Ev (fun k => sequiturlaw30_small.l2 k x (x.length : Int) i) b ∧ (b = true → smX (x.drop i)) := by
  intro d
  induction d with
  | zero =>
    intro i h1 h2
    refine ⟨true, Ev.succ ?_, fun _ => ?_⟩
    · simp only [sequiturlaw30_small.l2]
      exact Ev.neg (by omega) (Ev.now fun _ => rfl)
    · rw [List.drop_eq_nil_of_le (by omega)]; intro n hn; simp at hn
  | succ d ih =>
    intro i h1 h2
    have hi : i < x.length := by omega
    have hrd : rd x (i : Int) = x[i] := rd_at _ i hi
    obtain ⟨b, hb, hp⟩ := ih (i+1) (by omega) (by omega)
    by_cases c1 : x[i] > 1000
    · refine ⟨false, Ev.succ ?_, fun h => by cases h⟩
      simp only [sequiturlaw30_small.l2]
      rw [hrd]
      exact Ev.pos (by omega) (Ev.pos (by omega) (Ev.pos (by omega) (Ev.pos c1 (Ev.now fun _ => rfl))))
    by_cases c2 : x[i] < -1000
    · refine ⟨false, Ev.succ ?_, fun h => by cases h⟩
      simp only [sequiturlaw30_small.l2]
      rw [hrd]
      exact Ev.pos (by omega) (Ev.pos (by omega) (Ev.pos (by omega) (Ev.neg c1 (Ev.pos c2 (Ev.now fun _ => rfl)))))
    · refine ⟨b, Ev.succ ?_, fun h => ?_⟩
      · simp only [sequiturlaw30_small.l2]
        rw [hrd, show wrap64 ((i:Int) + 1) = ((i+1 : Nat) : Int) by rw [w64 (by omega) (by omega)]; omega]
        exact Ev.pos (by omega) (Ev.pos (by omega) (Ev.pos (by omega) (Ev.neg c1 (Ev.neg c2 hb))))
      · rw [List.drop_eq_getElem_cons hi]
        intro n hn
        rcases List.mem_cons.1 hn with rfl | hn
        · omega
        · exact hp h n hn
theorem small_l1 (x : List Int) (L : List S70) (n p : Int) (m : List S68) (hl : m.length ≤ 1000) (b : Bool) (P : Prop) (HH : Ev (fun k => sequiturlaw30_small.l0 k x L n (wrap64 (p + 1))) b) (hP : b = true → P) : ∀ (d i : Nat), m.length - i = d → i ≤ m.length →
    ∃ b, Ev (fun k => sequiturlaw30_small.l1 k x L n p m (m.length : Int) i) b ∧ (b = true → P ∧ ∀ q ∈ m.drop i, -100 ≤ q.f1 ∧ q.f1 ≤ 100) := by
  intro d
  induction d with
  | zero =>
    intro i h1 h2
    refine ⟨b, Ev.succ ?_, fun h => ⟨hP h, ?_⟩⟩
    · simp only [sequiturlaw30_small.l1]
      exact Ev.neg (by omega) HH
    · rw [List.drop_eq_nil_of_le (by omega)]; intro n hn; simp at hn
  | succ d ih =>
    intro i h1 h2
    have hi : i < m.length := by omega
    obtain ⟨c, hc, hp⟩ := ih (i+1) (by omega) (by omega)
    by_cases c1 : m[i].f1 > 100
    · refine ⟨false, Ev.succ ?_, fun h => by cases h⟩
      simp only [sequiturlaw30_small.l1]
      rw [rdM_at m i hi]
      exact Ev.pos (by omega) (Ev.pos (by omega) (Ev.pos (by omega) (Ev.pos c1 (Ev.now fun _ => rfl))))
    by_cases c2 : m[i].f1 < -100
    · refine ⟨false, Ev.succ ?_, fun h => by cases h⟩
      simp only [sequiturlaw30_small.l1]
      rw [rdM_at m i hi]
      exact Ev.pos (by omega) (Ev.pos (by omega) (Ev.pos (by omega) (Ev.neg c1 (Ev.pos c2 (Ev.now fun _ => rfl)))))
    · refine ⟨c, Ev.succ ?_, fun h => ⟨(hp h).1, ?_⟩⟩
      · simp only [sequiturlaw30_small.l1]
        rw [rdM_at m i hi, show wrap64 ((i:Int) + 1) = ((i+1 : Nat) : Int) by rw [w64 (by omega) (by omega)]; omega]
        exact Ev.pos (by omega) (Ev.pos (by omega) (Ev.pos (by omega) (Ev.neg c1 (Ev.neg c2 hc))))
      · rw [List.drop_eq_getElem_cons hi]
        intro q hq
        rcases List.mem_cons.1 hq with rfl | hq
        · omega
        · exact (hp h).2 q hq
theorem small_l0 (l : List S70) (x : List Int) (hl : l.length ≤ 1000) (hm : ∀ q ∈ l, q.f0.f1.length ≤ 1000) (hK : ∀ q ∈ l, R64 q.f0.f0) (hx : x.length ≤ 1000) : ∀ (d i : Nat), l.length - i = d → i ≤ l.length →
    ∃ b, Ev (fun k => sequiturlaw30_small.l0 k x l (l.length : Int) i) b ∧ (b = true → (∀ q ∈ l.drop i, smQ q) ∧ smX x) := by
  intro d
  induction d with
  | zero =>
    intro i h1 h2
    obtain ⟨b, hb, hp⟩ := small_l2 x hx _ 0 rfl (by omega)
    rw [List.drop_zero] at hp
    refine ⟨b, Ev.succ ?_, fun h => ⟨?_, hp h⟩⟩
    · simp only [sequiturlaw30_small.l0]
      exact Ev.neg (by omega) hb
    · rw [List.drop_eq_nil_of_le (by omega)]; intro n hn; simp at hn
  | succ d ih =>
    intro i h1 h2
    have hi : i < l.length := by omega
    have hmi := hm _ (List.getElem_mem hi)
    have hKi := hK _ (List.getElem_mem hi)
    have hR := right27_ev l[i].f0.f0 l[i].f0.f1 (by omega)
    have hwi : wrap64 ((i:Int) + 1) = ((i+1 : Nat) : Int) := by rw [w64 (by omega) (by omega)]; omega
    obtain ⟨c, hc, hp⟩ := ih (i+1) (by omega) (by omega)
    have hbad : Ev (fun k => sequiturlaw30_small.j2 k x l (l.length : Int) i true l[i].f0.f0 l[i].f0.f1 l[i].f1) false := by
      refine Ev.succ ?_
      simp only [sequiturlaw30_small.j2]
      exact Ev.pos trivial (Ev.now fun _ => rfl)
    by_cases c1 : l[i].f1 = true
    · refine ⟨false, Ev.succ ?_, fun h => by cases h⟩
      simp only [sequiturlaw30_small.l0]
      rw [rdI_at l i hi]
      exact Ev.pos (by omega) (Ev.pos (by omega) (Ev.pos (by omega) (Ev.pos c1 hbad)))
    by_cases c2 : rightL (-1) l[i].f0.f1 = true
    · rw [if_pos c2] at hR
      have hmx : mx l[i].f0.f0 (wrap64 (-l[i].f0.f0)) > 1000 ∨ l[i].f0.f0 < -1000 ∨ (-1000 ≤ l[i].f0.f0 ∧ l[i].f0.f0 ≤ 1000) := by
        have h1 := hKi.1
        have h2 := hKi.2
        by_cases e : l[i].f0.f0 > 1000
        · left; unfold mx; split <;> omega
        · omega
      by_cases c3 : mx l[i].f0.f0 (wrap64 (-l[i].f0.f0)) > 1000
      · refine ⟨false, Ev.succ ?_, fun h => by cases h⟩
        simp only [sequiturlaw30_small.l0]
        rw [rdI_at l i hi]
        exact Ev.pos (by omega) (Ev.pos (by omega) (Ev.pos (by omega) (Ev.neg c1 (Ev.bind hR (Ev.pos rfl (Ev.pos c3 hbad))))))
      by_cases c4 : l[i].f0.f0 < -1000
      · refine ⟨false, Ev.succ ?_, fun h => by cases h⟩
        simp only [sequiturlaw30_small.l0]
        rw [rdI_at l i hi, decide_eq_true c4]
        exact Ev.pos (by omega) (Ev.pos (by omega) (Ev.pos (by omega) (Ev.neg c1 (Ev.bind hR (Ev.pos rfl (Ev.neg c3 hbad))))))
      · obtain ⟨b, hb, hq⟩ := small_l1 x l (l.length : Int) i l[i].f0.f1 hmi c _ (by rw [hwi]; exact hc) hp _ 0 rfl (by omega)
        rw [List.drop_zero] at hq
        refine ⟨b, Ev.succ ?_, fun h => ⟨?_, (hq h).1.2⟩⟩
        · simp only [sequiturlaw30_small.l0]
          rw [rdI_at l i hi, decide_eq_false c4]
          refine Ev.pos (by omega) (Ev.pos (by omega) (Ev.pos (by omega) (Ev.neg c1 (Ev.bind hR (Ev.pos rfl (Ev.neg c3 ?_))))))
          refine Ev.succ ?_
          simp only [sequiturlaw30_small.j2]
          exact Ev.neg (by simp) hb
        · rw [List.drop_eq_getElem_cons hi]
          intro q hqm
          rcases List.mem_cons.1 hqm with rfl | hqm
          · exact ⟨by simpa using c1, c2, by omega, (hq h).2⟩
          · exact (hq h).1.1 q hqm
    · rw [if_neg c2] at hR
      refine ⟨false, Ev.succ ?_, fun h => by cases h⟩
      simp only [sequiturlaw30_small.l0]
      rw [rdI_at l i hi]
      exact Ev.pos (by omega) (Ev.pos (by omega) (Ev.pos (by omega) (Ev.neg c1 (Ev.bind hR (Ev.neg (by decide) hbad)))))
theorem small_ev (l : List S70) (x : List Int) (hK : ∀ q ∈ l, R64 q.f0.f0) : ∃ b, Ev (fun k => sequiturlaw30_small.f k l x) b ∧ (b = true → (∀ q ∈ l, smQ q) ∧ smX x ∧ l.length ≤ 12 ∧ (∀ q ∈ l, q.f0.f1.length ≤ 70) ∧ 1 ≤ x.length ∧ x.length ≤ 8) := by
  have hL := long30_ev l 12 (by omega)
  have hbad : ∀ b, b = true → Ev (fun k => sequiturlaw30_small.j0 k l x b) false := by
    intro b hb
    subst hb
    refine Ev.succ ?_
    simp only [sequiturlaw30_small.j0]
    exact Ev.pos trivial (Ev.now fun _ => rfl)
  by_cases c1 : longI l 12 = true
  · exact ⟨false, Ev.bind hL (Ev.pos c1 (hbad _ rfl)), fun h => by cases h⟩
  obtain ⟨n1, n2⟩ := longI_not (show longI l 12 = false by simpa using c1)
  by_cases c2 : (x.length : Int) = 0
  · exact ⟨false, Ev.bind hL (Ev.neg c1 (Ev.pos c2 (hbad _ rfl))), fun h => by cases h⟩
  by_cases c3 : (x.length : Int) > 8
  · exact ⟨false, Ev.bind hL (Ev.neg c1 (Ev.neg c2 (hbad _ (decide_eq_true c3)))), fun h => by cases h⟩
  obtain ⟨b, hb, hp⟩ := small_l0 l x (by omega) (fun q hq => Nat.le_trans (n2 q hq) (by decide)) hK (by omega) _ 0 rfl (by omega)
  rw [List.drop_zero] at hp
  refine ⟨b, Ev.bind hL (Ev.neg c1 (Ev.neg c2 (Ev.succ ?_))), fun h => ⟨(hp h).1, (hp h).2, by omega, n2, by omega, by omega⟩⟩
  simp only [sequiturlaw30_small.j0]
  exact Ev.neg (by simpa using c3) hb
def hV (x : List Int) (q : S70) : Int := q.f0.f0 + valL q.f0.f1 x
theorem valL_le (x : List Int) (hx : smX x) : ∀ (l : List S68), (∀ m ∈ l, -100 ≤ m.f1 ∧ m.f1 ≤ 100) → (∀ m ∈ l, 0 ≤ m.f0) → -(l.length * 100000 : Int) ≤ valL l x ∧ valL l x ≤ l.length * 100000 := by
  intro l
  induction l with
  | nil => intro _ _; exact ⟨by simp [valL], by simp [valL]⟩
  | cons m l ih =>
    intro h h0
    have hI := ih (fun a ha => h a (List.mem_cons_of_mem _ ha)) (fun a ha => h0 a (List.mem_cons_of_mem _ ha))
    have hm := h m (List.mem_cons_self ..)
    rw [valL_cons m l x (h0 m (List.mem_cons_self ..))]
    have hxv : -1000 ≤ xv x m.f0.toNat ∧ xv x m.f0.toNat ≤ 1000 := by
      unfold xv
      split
      · rename_i hc
        have hlt : m.f0.toNat < x.length := by omega
        rw [rd_at x _ hlt]
        exact hx _ (List.getElem_mem hlt)
      · omega
    have hp : -100000 ≤ m.f1 * xv x m.f0.toNat ∧ m.f1 * xv x m.f0.toNat ≤ 100000 := by
      have h1 := Nat.mul_le_mul (show m.f1.natAbs ≤ 100 by omega) (show (xv x m.f0.toNat).natAbs ≤ 1000 by omega)
      rw [← Int.natAbs_mul] at h1
      omega
    simp only [List.length_cons]
    omega
theorem right_pos {l : List S68} (h : rightL (-1) l = true) : ∀ m ∈ l, 0 ≤ m.f0 := fun m hm => (rightL_vars h m hm).1
theorem rV_le {x : List Int} (hx : smX x) {q : S70} (hq : smQ q) (v : Int) : -6401000 ≤ rV v x q ∧ rV v x q ≤ 6401000 := by
  obtain ⟨_, h2, h3, h4⟩ := hq
  have hsub : ∀ m ∈ lessL q.f0.f1 v, m ∈ q.f0.f1 := fun m hm => (List.mem_filter.1 hm).1
  have := valL_le x hx (lessL q.f0.f1 v) (fun m hm => h4 m (hsub m hm)) (fun m hm => right_pos h2 m (hsub m hm))
  have hl := rightL_len q.f0.f1 (-1) (by omega) h2
  have hl2 := lessL_len q.f0.f1 v
  unfold rV
  omega
theorem cf_le {q : S70} (hq : smQ q) (v : Int) : -100 ≤ cf v q ∧ cf v q ≤ 100 := by
  have key : ∀ l : List S68, (∀ m ∈ l, -100 ≤ m.f1 ∧ m.f1 ≤ 100) → -100 ≤ coefI l v ∧ coefI l v ≤ 100 := by
    intro l
    induction l with
    | nil => intro _; exact ⟨by simp [coefI], by simp [coefI]⟩
    | cons m l ih =>
      intro h
      simp only [coefI]
      split
      · exact h m (List.mem_cons_self ..)
      · exact ih (fun a ha => h a (List.mem_cons_of_mem _ ha))
  exact key _ hq.2.2.2
/-- The value where the variable has another one. -/
theorem hV_set {x : List Int} {q : S70} (hq : rightL (-1) q.f0.f1 = true) (n : Nat) (hn : n < x.length) (t : Int) : hV (x.set n t) q = rV n x q + cf n q * t := by
  unfold hV rV cf
  rw [valL_set x n t hn q.f0.f1 (-1) hq (by omega)]
  omega
theorem hV_self {x : List Int} {q : S70} (hq : rightL (-1) q.f0.f1 = true) (n : Nat) (hn : n < x.length) : hV x q = rV n x q + cf n q * x[n] := by
  have := hV_set hq n hn x[n]
  rwa [List.set_getElem_self] at this
/-- The value of a shadow. -/
theorem shade_val {x : List Int} {ka kb low up : Int} {la lb : List S68} (dark : Bool) (ha : rightL (-1) la = true) (hb : rightL (-1) lb = true) :
    shK ka kb low up dark + valL (linOf (shC la lb low up) 64) x = up * (ka + valL la x) - low * (kb + valL lb x) + (if dark = true then (-1 - low) * (up - 1) else 0) := by
  rw [linOf_val, valL_sg x la (rightL_vars ha), valL_sg x lb (rightL_vars hb)]
  have e : sg 64 (fun v => shC la lb low up v * xv x v) = sg 64 (fun v => coef la v * xv x v) * up + sg 64 (fun v => coef lb v * xv x v) * (-low) := by
    rw [← sg_mul, ← sg_mul, ← sg_add]
    refine sg_congr fun i _ => ?_
    unfold shC
    rw [Int.sub_mul, Int.mul_right_comm, Int.mul_right_comm (coef lb i), Int.mul_neg]
    omega
  rw [e]
  unfold shK
  generalize sg 64 (fun v => coef la v * xv x v) = A
  generalize sg 64 (fun v => coef lb v * xv x v) = B
  rw [Int.mul_add, Int.mul_add, Int.mul_neg, Int.mul_comm up ka, Int.mul_comm up A, Int.mul_comm low kb, Int.mul_comm low B]
  omega
theorem fitR_in {s : Int} (h : R64 s) : fitR s = (s, true) := by unfold fitR; rw [if_pos h]
theorem shade_small {p q : S70} (hp : smQ p) (hq : smQ q) (v : Int) (dark : Bool) : shadeD p.f0.f0 p.f0.f1 q.f0.f0 q.f0.f1 (cf v p) (cf v q) dark = (shK p.f0.f0 q.f0.f0 (cf v p) (cf v q) dark, linOf (shC p.f0.f1 q.f0.f1 (cf v p) (cf v q)) 64, true) := by
  have c1 := cf_le hp v
  have c2 := cf_le hq v
  have k1 := hp.2.2.1
  have k2 := hq.2.2.1
  have bnd2 : ∀ a b A B : Int, -A ≤ a → a ≤ A → -B ≤ b → b ≤ B → 0 ≤ A → 0 ≤ B → A ≤ 1000 → B ≤ 1000 → -1000000 ≤ a * b ∧ a * b ≤ 1000000 := by
    intro a b A B h1 h2 h3 h4 h5 h6 h7 h8
    have h := Nat.mul_le_mul (show a.natAbs ≤ 1000 by omega) (show b.natAbs ≤ 1000 by omega)
    rw [← Int.natAbs_mul] at h
    omega
  have hK : R64 (shK p.f0.f0 q.f0.f0 (cf v p) (cf v q) dark) := by
    have a1 := bnd2 p.f0.f0 (cf v q) 1000 100 (by omega) (by omega) (by omega) (by omega) (by omega) (by omega) (by omega) (by omega)
    have a2 := bnd2 q.f0.f0 (cf v p) 1000 100 (by omega) (by omega) (by omega) (by omega) (by omega) (by omega) (by omega) (by omega)
    have a3 := bnd2 (-1 - cf v p) (cf v q - 1) 1000 1000 (by omega) (by omega) (by omega) (by omega) (by omega) (by omega) (by omega) (by omega)
    unfold shK
    split
    · exact ⟨by omega, by omega⟩
    · exact ⟨by omega, by omega⟩
  have hcf : ∀ (l : List S68), rightL (-1) l = true → (∀ m ∈ l, -100 ≤ m.f1 ∧ m.f1 ≤ 100) → ∀ i : Nat, -100 ≤ coef l i ∧ coef l i ≤ 100 := by
    intro l hr hm i
    rw [← coefI_coef l (-1) hr (by omega) i]
    clear hr
    induction l with
    | nil => exact ⟨by simp [coefI], by simp [coefI]⟩
    | cons m l ih =>
      simp only [coefI]
      split
      · exact hm m (List.mem_cons_self ..)
      · exact ih (fun a ha => hm a (List.mem_cons_of_mem _ ha))
  have hC : ∀ i : Nat, R64 (shC p.f0.f1 q.f0.f1 (cf v p) (cf v q) i) := by
    intro i
    have b1 := hcf _ hp.2.1 hp.2.2.2 i
    have b2 := hcf _ hq.2.1 hq.2.2.2 i
    have a1 := bnd2 (coef p.f0.f1 i) (cf v q) 100 100 (by omega) (by omega) (by omega) (by omega) (by omega) (by omega) (by omega) (by omega)
    have a2 := bnd2 (coef q.f0.f1 i) (cf v p) 100 100 (by omega) (by omega) (by omega) (by omega) (by omega) (by omega) (by omega) (by omega)
    unfold shC
    exact ⟨by omega, by omega⟩
  unfold shadeD
  rw [fitR_in hK]
  have e1 : linOf (fun i => (fitR (shC p.f0.f1 q.f0.f1 (cf v p) (cf v q) i)).1) 64 = linOf (shC p.f0.f1 q.f0.f1 (cf v p) (cf v q)) 64 := linOf_congr fun i _ => by rw [fitR_in (hC i)]
  have e2 : ((List.range 64).all fun i => (fitR (shC p.f0.f1 q.f0.f1 (cf v p) (cf v q) i)).2) = true := by
    rw [List.all_eq_true]
    intro i _
    rw [fitR_in (hC i)]
  rw [e1, e2]; rfl
def holdB (x : List Int) (q : S70) : Bool := decide (R64 (hV x q)) && decide (hV x q ≤ 0) && (!q.f1 || decide (hV x q = 0))
theorem holds_l0 (l : List S70) (x : List Int) (hl : l.length ≤ 1000000) (hR : ∀ q ∈ l, R64 q.f0.f0 ∧ M64 q.f0.f1 ∧ rightL (-1) q.f0.f1 = true) (hx : I64 x) : ∀ (d i : Nat), l.length - i = d → i ≤ l.length →
    Ev (fun k => sequiturref30_Holds.l0 k l x i) ((l.drop i).all (holdB x)) := by
  intro d
  induction d with
  | zero =>
    intro i h1 h2
    rw [List.drop_eq_nil_of_le (by omega)]
    refine Ev.succ ?_
    simp only [sequiturref30_Holds.l0]
    exact Ev.neg (by omega) (Ev.now fun _ => rfl)
  | succ d ih =>
    intro i h1 h2
    have hi : i < l.length := by omega
    obtain ⟨q1, q2, q3⟩ := hR _ (List.getElem_mem hi)
    have hlen := rightL_len l[i].f0.f1 (-1) (by omega) q3
    have hE := refEval27_ev l[i].f0.f0 l[i].f0.f1 x q1 q2 hx (by omega)
    rw [if_pos q3, evR_of] at hE
    have hI := ih (i+1) (by omega) (by omega)
    rw [List.drop_eq_getElem_cons hi, List.all_cons]
    refine Ev.succ ?_
    simp only [sequiturref30_Holds.l0]
    rw [rdI_at l i hi, show wrap64 ((i:Int) + 1) = ((i+1 : Nat) : Int) by rw [w64 (by omega) (by omega)]; omega]
    refine Ev.pos (by omega) (Ev.pos (by omega) (Ev.bind hE ?_))
    have hv : l[i].f0.f0 + valL l[i].f0.f1 x = hV x l[i] := rfl
    rw [hv]
    unfold holdB evR
    by_cases c0 : R64 (hV x l[i])
    · rw [if_pos c0, decide_eq_true c0, Bool.true_and]
      refine Ev.pos rfl ?_
      by_cases c1 : hV x l[i] > 0
      · rw [decide_eq_false (show ¬ hV x l[i] ≤ 0 by omega)]
        exact Ev.pos c1 (Ev.now fun _ => rfl)
      · rw [decide_eq_true (show hV x l[i] ≤ 0 by omega), Bool.true_and]
        refine Ev.neg c1 ?_
        by_cases c2 : l[i].f1 = true
        · rw [c2]
          refine Ev.pos (by simp) ?_
          by_cases c3 : hV x l[i] = 0
          · rw [decide_eq_true c3]
            exact Ev.pos c3 hI
          · rw [decide_eq_false c3]
            exact Ev.neg c3 (Ev.now fun _ => rfl)
        · rw [show l[i].f1 = false by simpa using c2]
          exact Ev.neg (by simp) hI
    · rw [if_neg c0, decide_eq_false c0]
      exact Ev.neg (by simp) (Ev.now fun _ => rfl)
theorem holds_ev (l : List S70) (x : List Int) (hl : l.length ≤ 1000000) (hR : ∀ q ∈ l, R64 q.f0.f0 ∧ M64 q.f0.f1 ∧ rightL (-1) q.f0.f1 = true) (hx : I64 x) : Ev (fun k => sequiturref30_Holds.f k l x) (l.all (holdB x)) := by
  have := holds_l0 l x hl hR hx _ 0 rfl (by omega)
  rw [List.drop_zero] at this
  exact this
theorem fitR_R64 (s : Int) : R64 (fitR s).1 := by
  unfold fitR
  split
  · assumption
  · exact ⟨by simp, by simp⟩
def goodI (q : S70) : Prop := R64 q.f0.f0 ∧ M64 q.f0.f1 ∧ rightL (-1) q.f0.f1 = true
theorem shadeD_good (ka : Int) (la : List S68) (kb : Int) (lb : List S68) (low up : Int) (dark : Bool) : goodI ⟨⟨(shadeD ka la kb lb low up dark).1, (shadeD ka la kb lb low up dark).2.1⟩, false⟩ :=
  ⟨fitR_R64 _, linOf_M64 _ 64 (Nat.le_refl _) (fun v _ => fitR_R64 _), linOf_right (fun v => (fitR (shC la lb low up v)).1) 64 (Nat.le_refl _)⟩
theorem rd_ok {l : List S70} {s v i : Int} (h : i ∈ bnd s v l 0) : rd_T70 l i ∈ l ∧ sgD s (cf v (rd_T70 l i)) = true := by
  obtain ⟨_, _, h2, h3, h4⟩ := bnd_at h
  rw [h3]
  exact ⟨List.getElem_mem h2, h4⟩
theorem bnd_of {l : List S70} {s v : Int} {q : S70} (hq : q ∈ l) (hs : sgD s (cf v q) = true) : ∃ i ∈ bnd s v l 0, rd_T70 l i = q := by
  have : q ∈ (bnd s v l 0).map (rd_T70 l) := by rw [bnd_filter]; exact List.mem_filter.2 ⟨hq, hs⟩
  obtain ⟨i, hi, he⟩ := List.mem_map.1 this
  exact ⟨i, hi, he⟩
/-- The shadow of a pair, by small numbers. -/
def shQ (l : List S70) (v : Int) (dark : Bool) (p : Int × Int) : S70 := ⟨⟨shK (rd_T70 l p.1).f0.f0 (rd_T70 l p.2).f0.f0 (cf v (rd_T70 l p.1)) (cf v (rd_T70 l p.2)) dark, linOf (shC (rd_T70 l p.1).f0.f1 (rd_T70 l p.2).f0.f1 (cf v (rd_T70 l p.1)) (cf v (rd_T70 l p.2))) 64⟩, false⟩
theorem goP_small {β : Type} (mk : S70 → Int → Int → β) (l : List S70) (v : Int) (dark : Bool) : ∀ (ps : List (Int × Int)) (acc : List β), (∀ p ∈ ps, smQ (rd_T70 l p.1) ∧ smQ (rd_T70 l p.2)) →
    goP mk l v dark ps acc = (acc ++ ps.map fun p => mk (shQ l v dark p) p.1 p.2, 0) := by
  intro ps
  induction ps with
  | nil => intro acc _; simp [goP]
  | cons p ps ih =>
    intro acc h
    have hp := h p (List.mem_cons_self ..)
    simp only [goP]
    rw [shade_small hp.1 hp.2 v dark]
    simp only [if_true]
    rw [ih _ (fun q hq => h q (List.mem_cons_of_mem _ hq)), List.append_assoc]
    rfl
theorem pairs_mem {l : List S70} {v : Int} {p : Int × Int} (h : p ∈ pairsD l v) : p.1 ∈ bnd (-1) v l 0 ∧ p.2 ∈ bnd 1 v l 0 := by
  unfold pairsD at h
  obtain ⟨i, hi, h⟩ := List.mem_flatMap.1 h
  obtain ⟨k, hk, rfl⟩ := List.mem_map.1 h
  exact ⟨hi, hk⟩
theorem castD_small {β : Type} (mk : S70 → Int → Int → β) (l : List S70) (v : Int) (dark : Bool) (hl : l.length ≤ 12) (hs : ∀ q ∈ l, smQ q) (h0 : 0 ≤ v) (h1 : v < 64) :
    castD mk l v dark = (nonesD mk l v ++ (pairsD l v).map fun p => mk (shQ l v dark p) p.1 p.2, 0) := by
  have hw : wrongB l v = false := by
    unfold wrongB
    rw [decide_eq_false (show ¬ v < 0 by omega), decide_eq_false (show ¬ v ≥ 64 by omega)]
    simp only [Bool.false_or, Bool.not_eq_false', List.all_eq_true]
    intro q hq
    unfold okI
    rw [(hs q hq).1, (hs q hq).2.1]; rfl
  have b0 := bnd_len 0 v l 0
  have b1 := bnd_len (-1) v l 0
  have b2 := bnd_len 1 v l 0
  have hmul : (bnd (-1) v l 0).length * (bnd 1 v l 0).length ≤ 12 * 12 := Nat.mul_le_mul (by omega) (by omega)
  have hcast : ((bnd (-1) v l 0).length : Int) * (bnd 1 v l 0).length = (((bnd (-1) v l 0).length * (bnd 1 v l 0).length : Nat) : Int) := by simp
  unfold castD
  rw [hw, if_neg (by simp), if_neg (by rw [hcast]; omega)]
  exact goP_small mk l v dark _ _ fun p hp => ⟨hs _ (rd_ok (pairs_mem hp).1).1, hs _ (rd_ok (pairs_mem hp).2).1⟩
/-- The inequalities of a shadow. -/
def plD (l : List S70) (v : Int) (dark : Bool) : List S70 := ((bnd 0 v l 0).map (rd_T70 l)) ++ (pairsD l v).map (shQ l v dark)
theorem plain_l0 (L : List S72) (hl : L.length ≤ 1000000) : ∀ (d i : Nat) (acc : List S70), L.length - i = d → i ≤ L.length → acc = (L.take i).map (·.f0) →
    Ev (fun k => sequiturlaw30_plain.l0 k acc L (L.length : Int) i) (L.map (·.f0)) := by
  intro d
  induction d with
  | zero =>
    intro i acc h1 h2 hacc
    rw [List.take_of_length_le (by omega)] at hacc
    subst hacc
    refine Ev.succ ?_
    simp only [sequiturlaw30_plain.l0]
    exact Ev.neg (by omega) (Ev.now fun _ => rfl)
  | succ d ih =>
    intro i acc h1 h2 hacc
    have hi : i < L.length := by omega
    have hrd : rd_T72 L (i : Int) = L[i] := by simp [rd_T72, hi]
    have hal : acc.length ≤ 1000000 := by rw [hacc]; simp; omega
    refine Ev.succ ?_
    simp only [sequiturlaw30_plain.l0]
    rw [hrd, show wrap64 ((i:Int) + 1) = ((i+1 : Nat) : Int) by rw [w64 (by omega) (by omega)]; omega]
    refine Ev.pos (by omega) (Ev.pos (by omega) (Ev.pos (by omega) (Ev.pos (by omega) ?_)))
    exact ih (i+1) (acc ++ [L[i].f0]) (by omega) (by omega) (by rw [hacc, List.take_succ_eq_append_getElem hi, List.map_append]; rfl)
theorem plain_ev (L : List S72) (hl : L.length ≤ 1000000) : Ev (fun k => sequiturlaw30_plain.f k L) (L.map (·.f0)) := by
  have := plain_l0 L hl _ 0 [] rfl (by omega) (by simp)
  exact this
theorem pairs_len (l : List S70) (v : Int) (hl : l.length ≤ 12) : (pairsD l v).length ≤ 144 := by
  have b1 := bnd_len (-1) v l 0
  have b2 := bnd_len 1 v l 0
  have hmul : (bnd (-1) v l 0).length * (bnd 1 v l 0).length ≤ 12 * 12 := Nat.mul_le_mul (by omega) (by omega)
  have : (pairsD l v).length = (bnd (-1) v l 0).length * (bnd 1 v l 0).length := flat_len l v
  omega
theorem plainCast_ev (l : List S70) (v : Int) (dark : Bool) (hl : l.length ≤ 12) (hs : ∀ q ∈ l, smQ q) (h0 : 0 ≤ v) (h1 : v < 64) : Ev (fun k => sequiturlaw30_plain.f k (castD S72.mk l v dark).1) (plD l v dark) := by
  have b0 := bnd_len 0 v l 0
  have b1 := pairs_len l v hl
  rw [castD_small S72.mk l v dark hl hs h0 h1]
  refine (plain_ev _ (by simp [nonesD]; omega)).val ?_
  unfold nonesD plD
  simp only [List.map_append, List.map_map]
  rfl
theorem shQ_good (l : List S70) (v : Int) (dark : Bool) {p : Int × Int} (h1 : smQ (rd_T70 l p.1)) (h2 : smQ (rd_T70 l p.2)) : goodI (shQ l v dark p) := by
  have := shadeD_good (rd_T70 l p.1).f0.f0 (rd_T70 l p.1).f0.f1 (rd_T70 l p.2).f0.f0 (rd_T70 l p.2).f0.f1 (cf v (rd_T70 l p.1)) (cf v (rd_T70 l p.2)) dark
  rw [shade_small h1 h2 v dark] at this
  exact this
theorem smQ_good {q : S70} (hR : R64 q.f0.f0 ∧ M64 q.f0.f1) (h : smQ q) : goodI q := ⟨hR.1, hR.2, h.2.1⟩
theorem plHolds_ev (l : List S70) (v : Int) (x : List Int) (dark : Bool) (hl : l.length ≤ 12) (hs : ∀ q ∈ l, smQ q) (hR : ∀ q ∈ l, R64 q.f0.f0 ∧ M64 q.f0.f1) (hx : I64 x) : Ev (fun k => sequiturref30_Holds.f k (plD l v dark) x) ((plD l v dark).all (holdB x)) := by
  have b0 := bnd_len 0 v l 0
  have b1 := pairs_len l v hl
  refine holds_ev _ x (by unfold plD; simp; omega) (fun q hq => ?_) hx
  unfold plD at hq
  rcases List.mem_append.1 hq with hq | hq
  · obtain ⟨i, hi, rfl⟩ := List.mem_map.1 hq
    exact smQ_good (hR _ (rd_ok hi).1) (hs _ (rd_ok hi).1)
  · obtain ⟨p, hp, rfl⟩ := List.mem_map.1 hq
    exact shQ_good l v dark (hs _ (rd_ok (pairs_mem hp).1).1) (hs _ (rd_ok (pairs_mem hp).2).1)
/-- A pair's shadow's value: the variable is gone. -/
theorem shQ_val (l : List S70) (n : Nat) (x : List Int) (dark : Bool) (hn : n < x.length) {p : Int × Int} (h1 : smQ (rd_T70 l p.1)) (h2 : smQ (rd_T70 l p.2)) :
    hV x (shQ l n dark p) = cf n (rd_T70 l p.2) * rV n x (rd_T70 l p.1) - cf n (rd_T70 l p.1) * rV n x (rd_T70 l p.2) + (if dark = true then (-1 - cf n (rd_T70 l p.1)) * (cf n (rd_T70 l p.2) - 1) else 0) := by
  unfold hV shQ
  rw [shade_val dark h1.2.1 h2.2.1]
  have e1 := hV_self (x := x) h1.2.1 n hn
  have e2 := hV_self (x := x) h2.2.1 n hn
  unfold hV at e1 e2
  rw [e1, e2, Int.mul_add, Int.mul_add, Int.mul_left_comm (cf n (rd_T70 l p.2))]
  omega
/-- What bounds allow is between what each allows. -/
theorem betD_spec (v : Int) (x : List Int) : ∀ (l : List S70) (lo up : Int) (has is_ : Bool), (∀ q ∈ l, R64 (rV v x q)) → (∀ q ∈ l, 0 < cf v q → R64 (-(ceilD (rV v x q) (cf v q)))) →
    ∃ lo' up' has' is_', betD v x l lo up has is_ = (lo', up', has', is_', 0) ∧
      (has = true → has' = true ∧ lo ≤ lo') ∧ (is_ = true → is_' = true ∧ up' ≤ up) ∧
      (∀ q ∈ l, cf v q < 0 → has' = true ∧ ceilD (rV v x q) (-cf v q) ≤ lo') ∧ (∀ q ∈ l, 0 < cf v q → is_' = true ∧ up' ≤ -(ceilD (rV v x q) (cf v q))) ∧
      (has' = true → (has = true ∧ lo' = lo) ∨ ∃ q ∈ l, cf v q < 0 ∧ lo' = ceilD (rV v x q) (-cf v q)) ∧ (is_' = true → (is_ = true ∧ up' = up) ∨ ∃ q ∈ l, 0 < cf v q ∧ up' = -(ceilD (rV v x q) (cf v q))) ∧
      (has' = false → lo' = lo) ∧ (is_' = false → up' = up) := by
  intro l
  induction l with
  | nil =>
    intro lo up has is_ _ _
    exact ⟨lo, up, has, is_, rfl, fun h => ⟨h, Int.le_refl _⟩, fun h => ⟨h, Int.le_refl _⟩, fun q hq => by simp at hq, fun q hq => by simp at hq, fun h => .inl ⟨h, rfl⟩, fun h => .inl ⟨h, rfl⟩, fun _ => rfl, fun _ => rfl⟩
  | cons q t ih =>
    intro lo up has is_ h1 h2
    have hI := fun lo up has is_ => ih lo up has is_ (fun a ha => h1 a (List.mem_cons_of_mem _ ha)) (fun a ha => h2 a (List.mem_cons_of_mem _ ha))
    simp only [betD]
    by_cases c0 : cf v q = 0
    · rw [if_pos c0]
      obtain ⟨lo', up', has', is_', e, a1, a2, a3, a4, a5, a6, a7, a8⟩ := hI lo up has is_
      refine ⟨lo', up', has', is_', e, a1, a2, ?_, ?_, ?_, ?_, a7, a8⟩
      · intro p hp hc
        rcases List.mem_cons.1 hp with rfl | hp
        · omega
        · exact a3 p hp hc
      · intro p hp hc
        rcases List.mem_cons.1 hp with rfl | hp
        · omega
        · exact a4 p hp hc
      · intro h
        rcases a5 h with h | ⟨p, hp, h⟩
        · exact .inl h
        · exact .inr ⟨p, List.mem_cons_of_mem _ hp, h⟩
      · intro h
        rcases a6 h with h | ⟨p, hp, h⟩
        · exact .inl h
        · exact .inr ⟨p, List.mem_cons_of_mem _ hp, h⟩
    rw [if_neg c0, if_neg (fun h => h (h1 q (List.mem_cons_self ..)))]
    by_cases cn : cf v q < 0
    · rw [if_pos cn]
      by_cases c2 : has = true ∧ ¬ ceilD (rV v x q) (-cf v q) > lo
      · rw [if_pos c2]
        obtain ⟨lo', up', has', is_', e, a1, a2, a3, a4, a5, a6, a7, a8⟩ := hI lo up has is_
        refine ⟨lo', up', has', is_', e, a1, a2, ?_, ?_, ?_, ?_, a7, a8⟩
        · intro p hp hc
          rcases List.mem_cons.1 hp with rfl | hp
          · have := a1 c2.1
            exact ⟨this.1, by omega⟩
          · exact a3 p hp hc
        · intro p hp hc
          rcases List.mem_cons.1 hp with rfl | hp
          · omega
          · exact a4 p hp hc
        · intro h
          rcases a5 h with h | ⟨p, hp, h⟩
          · exact .inl h
          · exact .inr ⟨p, List.mem_cons_of_mem _ hp, h⟩
        · intro h
          rcases a6 h with h | ⟨p, hp, h⟩
          · exact .inl h
          · exact .inr ⟨p, List.mem_cons_of_mem _ hp, h⟩
      · rw [if_neg c2]
        obtain ⟨lo', up', has', is_', e, a1, a2, a3, a4, a5, a6, a7, a8⟩ := hI (ceilD (rV v x q) (-cf v q)) up true is_
        have a1' := a1 rfl
        refine ⟨lo', up', has', is_', e, ?_, a2, ?_, ?_, ?_, ?_, ?_, a8⟩
        · intro h
          refine ⟨a1'.1, ?_⟩
          have : ceilD (rV v x q) (-cf v q) > lo := by
            by_cases c3 : ceilD (rV v x q) (-cf v q) > lo
            · exact c3
            · exact absurd ⟨h, c3⟩ c2
          omega
        · intro p hp hc
          rcases List.mem_cons.1 hp with rfl | hp
          · exact a1'
          · exact a3 p hp hc
        · intro p hp hc
          rcases List.mem_cons.1 hp with rfl | hp
          · omega
          · exact a4 p hp hc
        · intro h
          rcases a5 h with h | ⟨p, hp, h⟩
          · exact .inr ⟨q, List.mem_cons_self .., cn, h.2⟩
          · exact .inr ⟨p, List.mem_cons_of_mem _ hp, h⟩
        · intro h
          rcases a6 h with h | ⟨p, hp, h⟩
          · exact .inl h
          · exact .inr ⟨p, List.mem_cons_of_mem _ hp, h⟩
        · intro h
          rw [a1'.1] at h; cases h
    · have cp : 0 < cf v q := by omega
      rw [if_neg cn, if_neg (fun h => h (h2 q (List.mem_cons_self ..) cp))]
      by_cases c2 : is_ = true ∧ ¬ -(ceilD (rV v x q) (cf v q)) < up
      · rw [if_pos c2]
        obtain ⟨lo', up', has', is_', e, a1, a2, a3, a4, a5, a6, a7, a8⟩ := hI lo up has is_
        refine ⟨lo', up', has', is_', e, a1, a2, ?_, ?_, ?_, ?_, a7, a8⟩
        · intro p hp hc
          rcases List.mem_cons.1 hp with rfl | hp
          · omega
          · exact a3 p hp hc
        · intro p hp hc
          rcases List.mem_cons.1 hp with rfl | hp
          · have := a2 c2.1
            exact ⟨this.1, by omega⟩
          · exact a4 p hp hc
        · intro h
          rcases a5 h with h | ⟨p, hp, h⟩
          · exact .inl h
          · exact .inr ⟨p, List.mem_cons_of_mem _ hp, h⟩
        · intro h
          rcases a6 h with h | ⟨p, hp, h⟩
          · exact .inl h
          · exact .inr ⟨p, List.mem_cons_of_mem _ hp, h⟩
      · rw [if_neg c2]
        obtain ⟨lo', up', has', is_', e, a1, a2, a3, a4, a5, a6, a7, a8⟩ := hI lo (-(ceilD (rV v x q) (cf v q))) has true
        have a2' := a2 rfl
        refine ⟨lo', up', has', is_', e, a1, ?_, ?_, ?_, ?_, ?_, a7, ?_⟩
        · intro h
          refine ⟨a2'.1, ?_⟩
          have : -(ceilD (rV v x q) (cf v q)) < up := by
            by_cases c3 : -(ceilD (rV v x q) (cf v q)) < up
            · exact c3
            · exact absurd ⟨h, c3⟩ c2
          omega
        · intro p hp hc
          rcases List.mem_cons.1 hp with rfl | hp
          · omega
          · exact a3 p hp hc
        · intro p hp hc
          rcases List.mem_cons.1 hp with rfl | hp
          · exact a2'
          · exact a4 p hp hc
        · intro h
          rcases a5 h with h | ⟨p, hp, h⟩
          · exact .inl h
          · exact .inr ⟨p, List.mem_cons_of_mem _ hp, h⟩
        · intro h
          rcases a6 h with h | ⟨p, hp, h⟩
          · exact .inr ⟨q, List.mem_cons_self .., cp, h.2⟩
          · exact .inr ⟨p, List.mem_cons_of_mem _ hp, h⟩
        · intro h
          rw [a2'.1] at h; cases h
/-- Where the dark shadow of two bounds holds, the least number that the lower one allows is allowed by the upper one. -/
theorem dark_law {r s b d : Int} (hb : 1 ≤ b) (hd : 1 ≤ d) (h : d * r + b * s + (b - 1) * (d - 1) ≤ 0) : s + d * ceilD r b ≤ 0 := by
  obtain ⟨h1, h2⟩ := ceil_law (K := r) hb
  have e1 : b * (d * ceilD r b) ≤ d * (r + (b - 1)) := by
    have : b * ceilD r b ≤ r + (b - 1) := by rw [Int.mul_sub, Int.mul_one] at h1; omega
    have := Int.mul_le_mul_of_nonneg_left this (show 0 ≤ d by omega)
    rwa [Int.mul_left_comm] at this
  have e2 : b * (s + d * ceilD r b) ≤ b - 1 := by
    rw [Int.mul_add]
    rw [Int.mul_add] at e1
    have e3 : (b - 1) * (d - 1) = d * (b - 1) - (b - 1) := by rw [Int.mul_sub, Int.mul_one, Int.mul_comm]
    rw [e3] at h
    omega
  by_cases c : s + d * ceilD r b ≤ 0
  · exact c
  · have := Int.mul_le_mul_of_nonneg_left (show 1 ≤ s + d * ceilD r b by omega) (show 0 ≤ b by omega)
    rw [Int.mul_one] at this
    omega
open Go.ChangeShapes Go.WideShapes
theorem list_of {α : Type} (n : Nat) (p : Nat → α → Prop) (h : ∀ i, i < n → ∃ x, p i x) : ∃ l : List α, l.length = n ∧ ∀ i x, l[i]? = some x → p i x := by
  induction n with
  | zero => exact ⟨[], rfl, by simp⟩
  | succ n ih =>
    obtain ⟨l, hl, hp⟩ := ih (fun i hi => h i (by omega))
    obtain ⟨x, hx⟩ := h n (by omega)
    refine ⟨l ++ [x], by simp [hl], fun i y hy => ?_⟩
    rcases Nat.lt_or_ge i n with q | q
    · rw [List.getElem?_append_left (by omega)] at hy; exact hp i y hy
    · rw [List.getElem?_append_right (by omega)] at hy
      have : i - l.length = 0 := by
        rcases Nat.eq_zero_or_pos (i - l.length) with e | e
        · exact e
        · rw [List.getElem?_eq_none (by simp; omega)] at hy; cases hy
      rw [this] at hy
      obtain rfl : x = y := by simpa using hy
      rw [show i = n by omega]; exact hx
/-- An argument that is a slice, opened: a list of what its elements are. -/
theorem open_row {H : Type} {enc : TypeId × Value → H} {W : World} {held : Bool} {α : Type} (d : Kd α) (Q : α → Prop) {t e : TypeId} {spare : Nat → Bool} {fuel : Nat} {A : Option Addr} {n c : Nat} {x : DataW H × List MemPlace}
    (ht : Try.prog.underlying t = some (.slice e)) (hsz : Try.prog.cellsOf e = d.sz)
    (ho : ∀ m cs y, DataW.trod enc Try.prog W 0 spare held m e cs = some y → ∃ x, d.K W x cs ∧ Q x)
    (h : DataW.trod enc Try.prog W 0 spare held fuel t [.slice A n c] = some x) :
    ∃ l : List α, l.length = n ∧ n ≤ c ∧ c ≤ maxLen ∧ d.C W A n l ∧ ∀ x ∈ l, Q x := by
  rcases Go.Deep.open_slice ht h with ⟨hcs, _⟩ | ⟨a, len, cap, m, n', D, Pl, hcs, _, hl, hm, hmm, _, hi⟩
  · simp at hcs
    obtain ⟨rfl, rfl, rfl⟩ := hcs
    exact ⟨[], rfl, Nat.le_refl _, Nat.zero_le _, Kd.C_nil d W, by simp⟩
  · simp at hcs
    obtain ⟨rfl, rfl, rfl⟩ := hcs
    have hmn : n ≤ m := by rw [hmm]; split <;> omega
    obtain ⟨l, h1, h2⟩ := list_of n (fun i x => (∃ cs, cs.length = d.sz ∧ d.K W x cs ∧ ∀ j u, cs[j]? = some u → W.cell? (a.add (i * d.sz + j)) = some u) ∧ Q x) (fun i hin => by
      obtain ⟨cs, hc, hx⟩ := hi i (by omega)
      obtain ⟨x, hK, hQ⟩ := ho _ _ _ hx
      obtain ⟨_, hlen, hat⟩ := World.cells?_some hc
      refine ⟨x, ⟨cs, hlen.trans hsz, hK, fun j u hj => ?_⟩, hQ⟩
      have hjl : j < cs.length := by
        rcases Nat.lt_or_ge j cs.length with q | q
        · exact q
        · rw [List.getElem?_eq_none q] at hj; cases hj
      rw [← hj, ← hat j (by omega), hsz, Go.Deep.add_add])
    refine ⟨l, h1, hl, hm, ⟨h1, ?_, fun _ => ⟨a, rfl, fun j p hj => (h2 j p hj).1⟩⟩, fun x hx => ?_⟩
    · have : maxLen = 9223372036854775807 := rfl
      omega
    · obtain ⟨i, hi', he⟩ := List.getElem_of_mem hx
      exact (h2 i x (by rw [List.getElem?_eq_getElem hi', he])).2
theorem open_int1 {H : Type} {enc : TypeId × Value → H} {W : World} {held : Bool} {spare : Nat → Bool} {m : Nat} {e : TypeId} (hu : Try.prog.underlying e = some (.int .i64)) (cs : List Value) (y : DataW H × List MemPlace) (h : DataW.trod enc Try.prog W 0 spare held m e cs = some y) :
    ∃ x : Int, (Kd.int .i64).K W x cs ∧ (-9223372036854775808 ≤ x ∧ x ≤ 9223372036854775807) := by
  obtain ⟨n, rfl, _, hw⟩ := DataW.trod_int hu h
  exact ⟨n, rfl, wf64 hw⟩
theorem open_ints1 {H : Type} {enc : TypeId × Value → H} {W : World} {held : Bool} {spare : Nat → Bool} {fuel : Nat} {t e : TypeId} {A : Option Addr} {n c : Nat} {x : DataW H × List MemPlace} (hu : Try.prog.underlying t = some (.slice e)) (he : Try.prog.underlying e = some (.int .i64)) (hc : Try.prog.cellsOf e = 1)
    (h : DataW.trod enc Try.prog W 0 spare held fuel t [.slice A n c] = some x) :
    ∃ l : List Int, l.length = n ∧ n ≤ c ∧ c ≤ maxLen ∧ Kd.C (Kd.int .i64) W A n l ∧ I64 l :=
  open_row (Kd.int .i64) _ hu hc (fun _ cs y h => open_int1 he cs y h) h
/-- A monomial's cells. -/
theorem open_mono {H : Type} {enc : TypeId × Value → H} {W : World} {held : Bool} {spare : Nat → Bool} {m : Nat} (cs : List Value) (y : DataW H × List MemPlace) (h : DataW.trod enc Try.prog W 0 spare held m 68 cs = some y) :
    ∃ x : S68, k68.K W x cs ∧ ((-9223372036854775808 ≤ x.f0 ∧ x.f0 ≤ 9223372036854775807) ∧ -9223372036854775808 ≤ x.f1 ∧ x.f1 ≤ 9223372036854775807) := by
  obtain ⟨y0, y1, n, _, hl, h0, h1⟩ := trod_struct2 Try.underlying68 h
  have e0 : Try.prog.cellsOf 3 = 1 := by kernel_rfl
  have e1 : Try.prog.cellsOf 2 = 1 := by kernel_rfl
  have e2 : Try.prog.cellsOf 68 = 2 := by kernel_rfl
  simp only [e0, e1] at h0 h1
  rw [e2] at hl
  match cs, hl with
  | [c0, c1], _ =>
    obtain ⟨a, ha, _, hw⟩ := DataW.trod_int Try.underlying3 h0
    obtain ⟨b, hb, _, hw2⟩ := DataW.trod_int Try.underlying2 h1
    simp at ha hb
    subst ha hb
    exact ⟨⟨a, b⟩, k68_mk W ⟨a, b⟩, wf64 hw, wf64 hw2⟩
/-- A form's cells. -/
theorem open_lin {H : Type} {enc : TypeId × Value → H} {W : World} {held : Bool} {spare : Nat → Bool} {m : Nat} (cs : List Value) (y : DataW H × List MemPlace) (h : DataW.trod enc Try.prog W 0 spare held m 62 cs = some y) :
    ∃ (x : S62) (A : Option Addr) (c : Nat), cs = [.int .i64 x.f0, .slice A x.f1.length c] ∧ x.f1.length ≤ c ∧ c ≤ maxLen ∧ Kd.C k68 W A x.f1.length x.f1 ∧ R64 x.f0 ∧ M64 x.f1 := by
  obtain ⟨y0, y1, n, _, hl, h0, h1⟩ := trod_struct2 Try.underlying62 h
  have e1 : Try.prog.cellsOf 2 = 1 := by kernel_rfl
  have e0 : Try.prog.cellsOf 60 = 1 := by kernel_rfl
  have e2 : Try.prog.cellsOf 62 = 2 := by kernel_rfl
  simp only [e0, e1] at h0 h1
  rw [e2] at hl
  match cs, hl with
  | [c0, c1], _ =>
    obtain ⟨a, ha, _, hw⟩ := DataW.trod_int Try.underlying2 h0
    simp at ha
    subst ha
    have h2 : DataW.trod enc Try.prog W 0 spare held n 60 [c1] = some y1 := h1
    have hs : ∃ A n c, c1 = .slice A n c := by
      rcases Go.Deep.open_slice Try.underlying60 h2 with ⟨hcs, _⟩ | ⟨a, len, cap, m, n', D, Pl, hcs, _⟩
      · simp at hcs; exact ⟨_, _, _, hcs⟩
      · simp at hcs; exact ⟨_, _, _, hcs⟩
    obtain ⟨A, len, c, rfl⟩ := hs
    obtain ⟨l, rfl, hc, hm, hC, hQ⟩ := open_row k68 _ Try.underlying60 (by kernel_rfl) (fun _ cs y h => open_mono cs y h) h2
    exact ⟨⟨a, l⟩, A, c, rfl, hc, hm, hC, wf64 hw, hQ⟩
/-- An inequality's cells. -/
theorem open_ineq {H : Type} {enc : TypeId × Value → H} {W : World} {held : Bool} {spare : Nat → Bool} {m : Nat} (cs : List Value) (y : DataW H × List MemPlace) (h : DataW.trod enc Try.prog W 0 spare held m 70 cs = some y) :
    ∃ (x : S70) (A : Option Addr) (c : Nat), cs = [.int .i64 x.f0.f0, .slice A x.f0.f1.length c, .bool x.f1] ∧ x.f0.f1.length ≤ c ∧ c ≤ maxLen ∧ Kd.C k68 W A x.f0.f1.length x.f0.f1 ∧ R64 x.f0.f0 ∧ M64 x.f0.f1 := by
  obtain ⟨y0, y1, n, _, hl, h0, h1⟩ := trod_struct2 Try.underlying70 h
  have e1 : Try.prog.cellsOf 4 = 1 := by kernel_rfl
  have e0 : Try.prog.cellsOf 62 = 2 := by kernel_rfl
  have e2 : Try.prog.cellsOf 70 = 3 := by kernel_rfl
  simp only [e0, e1] at h0 h1
  rw [e2] at hl
  match cs, hl with
  | [c0, c1, c2], _ =>
    obtain ⟨b, hb, _⟩ := DataW.trod_bool Try.underlying4 h1
    simp at hb
    subst hb
    obtain ⟨x, A, c, hcs, hc, hm, hC, hr, hM⟩ := open_lin _ _ h0
    simp at hcs
    obtain ⟨rfl, rfl⟩ := hcs
    exact ⟨⟨x, b⟩, A, c, rfl, hc, hm, hC, hr, hM⟩
def Q30 (x : S70) : Prop := R64 x.f0.f0 ∧ M64 x.f0.f1 ∧ x.f0.f1.length ≤ maxLen
theorem open_ineqK {H : Type} {enc : TypeId × Value → H} {W : World} {held : Bool} {spare : Nat → Bool} {m : Nat} (cs : List Value) (y : DataW H × List MemPlace) (h : DataW.trod enc Try.prog W 0 spare held m 70 cs = some y) :
    ∃ x : S70, k70.K W x cs ∧ Q30 x := by
  obtain ⟨x, A, c, rfl, hc, hm, hC, hr, hM⟩ := open_ineq cs y h
  exact ⟨x, k70_mk W x hc hC, hr, hM, Nat.le_trans hc hm⟩
theorem Q30_R {l : List S70} (h : ∀ q ∈ l, Q30 q) : ∀ q ∈ l, R64 q.f0.f0 ∧ M64 q.f0.f1 := fun q hq => ⟨(h q hq).1, (h q hq).2.1⟩
theorem ceil_small {r d : Int} (h1 : -6401000 ≤ r) (h2 : r ≤ 6401000) (hd : 1 ≤ d) : -6401000 ≤ ceilD r d ∧ ceilD r d ≤ 6401000 := by
  obtain ⟨a, b⟩ := ceil_law (K := r) hd
  constructor
  · by_cases c : ceilD r d ≤ 0
    · have : d * ceilD r d ≤ 1 * ceilD r d := Int.mul_le_mul_of_nonpos_right hd c
      omega
    · omega
  · by_cases c : 1 ≤ ceilD r d
    · have : 1 * (ceilD r d - 1) ≤ d * (ceilD r d - 1) := Int.mul_le_mul_of_nonneg_right hd (by omega)
      omega
    · omega
theorem sg_neg {t : Int} : sgD (-1) t = true ↔ t < 0 := by unfold sgD; simp
theorem sg_pos {t : Int} : sgD 1 t = true ↔ 0 < t := by unfold sgD; simp
theorem sg_nul {t : Int} : sgD 0 t = true ↔ t = 0 := by unfold sgD; simp
theorem holdB_le {x : List Int} {q : S70} (h : holdB x q = true) : hV x q ≤ 0 := by
  unfold holdB at h
  simp only [Bool.and_eq_true, decide_eq_true_eq] at h
  exact h.1.2
/-- What must be so of the pairs: the sum of the rests, and the product behind them. -/
def dkey (l : List S70) (n : Nat) (x : List Int) : Prop := (∀ q ∈ l, cf n q = 0 → rV n x q ≤ 0) ∧ ∀ p ∈ l, ∀ q ∈ l, cf n p < 0 → 0 < cf n q → cf n q * rV n x p - cf n p * rV n x q + (-1 - cf n p) * (cf n q - 1) ≤ 0
theorem none_le {l : List S70} {n : Nat} {x : List Int} {dark : Bool} (hn : n < x.length) (hs : ∀ q ∈ l, smQ q) (h : (plD l n dark).all (holdB x) = true) : ∀ q ∈ l, cf n q = 0 → rV n x q ≤ 0 := by
  intro q hq hc
  obtain ⟨i, hi, he⟩ := bnd_of hq (sg_nul.2 hc)
  have hm : rd_T70 l i ∈ plD l n dark := List.mem_append.2 (.inl (List.mem_map.2 ⟨i, hi, rfl⟩))
  have h1 := holdB_le (List.all_eq_true.1 h _ hm)
  rw [he, hV_self (hs q hq).2.1 n hn, hc] at h1
  omega
theorem pair_le {l : List S70} {n : Nat} {x : List Int} {dark : Bool} (hn : n < x.length) (hs : ∀ q ∈ l, smQ q) (h : (plD l n dark).all (holdB x) = true) : ∀ p ∈ l, ∀ q ∈ l, cf n p < 0 → 0 < cf n q → cf n q * rV n x p - cf n p * rV n x q + (if dark = true then (-1 - cf n p) * (cf n q - 1) else 0) ≤ 0 := by
  intro p hp q hq cp cq
  obtain ⟨i, hi, he⟩ := bnd_of hp (sg_neg.2 cp)
  obtain ⟨k, hk, he2⟩ := bnd_of hq (sg_pos.2 cq)
  have hm : shQ l n dark (i, k) ∈ plD l n dark := List.mem_append.2 (.inr (List.mem_map.2 ⟨(i, k), List.mem_flatMap.2 ⟨i, hi, List.mem_map.2 ⟨k, hk, rfl⟩⟩, rfl⟩))
  have h1 := holdB_le (List.all_eq_true.1 h _ hm)
  rw [shQ_val l n x dark hn (p := (i, k)) (by rw [he]; exact hs p hp) (by rw [he2]; exact hs q hq)] at h1
  simp only [he, he2] at h1
  exact h1
theorem dkey_dark {l : List S70} {n : Nat} {x : List Int} (hn : n < x.length) (hs : ∀ q ∈ l, smQ q) (h : (plD l n true).all (holdB x) = true) : dkey l n x :=
  ⟨none_le hn hs h, fun p hp q hq cp cq => by have := pair_le hn hs h p hp q hq cp cq; simpa using this⟩
theorem dkey_real {l : List S70} {n : Nat} {x : List Int} (hn : n < x.length) (hs : ∀ q ∈ l, smQ q) (hex : exD l n = true) (h : (plD l n false).all (holdB x) = true) : dkey l n x := by
  refine ⟨none_le hn hs h, fun p hp q hq cp cq => ?_⟩
  have h1 := pair_le hn hs h p hp q hq cp cq
  have hz : (-1 - cf n p) * (cf n q - 1) = 0 := by
    by_cases c : cf n p = -1
    · rw [c]; simp
    · by_cases c2 : cf n q = 1
      · rw [c2]; simp
      · exfalso
        unfold exD at hex
        have a1 : (l.any fun q => decide (cf n q < -1)) = true := List.any_eq_true.2 ⟨p, hp, by simp; omega⟩
        have a2 : (l.any fun q => decide (cf n q > 1)) = true := List.any_eq_true.2 ⟨q, hq, by simp; omega⟩
        rw [a1, a2] at hex
        simp at hex
  rw [hz]
  simpa using h1
theorem dark_end {l : List S70} {n : Nat} {x : List Int} (hn : n < x.length) (hn64 : n < 64) (hs : ∀ q ∈ l, smQ q) (hx : smX x) (hk : dkey l n x) :
    ∃ lo up has is_, betweenD l n x = (lo, up, has, is_, 0) ∧ (has = true → is_ = true → lo ≤ up) ∧ (∀ q ∈ l, holdB (x.set n (if has = true then lo else up)) q = true) ∧ R64 lo ∧ R64 up := by
  have hw : wrongB l n = false := by
    unfold wrongB
    rw [decide_eq_false (show ¬ (n : Int) < 0 by omega), decide_eq_false (show ¬ (n : Int) ≥ 64 by omega)]
    simp only [Bool.false_or, Bool.not_eq_false', List.all_eq_true]
    intro q hq
    unfold okI
    rw [(hs q hq).1, (hs q hq).2.1]; rfl
  have hr := fun q hq => rV_le hx (hs q hq) n
  have hc := fun q hq => cf_le (hs q hq) n
  have hcl : ∀ q ∈ l, ∀ d : Int, 1 ≤ d → -6401000 ≤ ceilD (rV n x q) d ∧ ceilD (rV n x q) d ≤ 6401000 := fun q hq d hd => ceil_small (hr q hq).1 (hr q hq).2 hd
  obtain ⟨lo, up, has, is_, e, _, _, a3, a4, a5, a6, a7, a8⟩ := betD_spec n x l 0 0 false false (fun q hq => by have := hr q hq; exact ⟨by omega, by omega⟩) (fun q hq cq => by have := hcl q hq (cf n q) (by omega); exact ⟨by omega, by omega⟩)
  have hbet : betweenD l n x = (lo, up, has, is_, 0) := by unfold betweenD; rw [hw]; exact e
  have blo : -6401000 ≤ lo ∧ lo ≤ 6401000 := by
    cases has
    · have := a7 rfl; omega
    · rcases a5 rfl with h | ⟨q, hq, cq, rfl⟩
      · exact absurd h.1 (by simp)
      · exact hcl q hq _ (by omega)
  have bup : -6401000 ≤ up ∧ up ≤ 6401000 := by
    cases is_
    · have := a8 rfl; omega
    · rcases a6 rfl with h | ⟨q, hq, cq, rfl⟩
      · exact absurd h.1 (by simp)
      · have := hcl q hq (cf n q) (by omega); omega
  have hup : has = true → ∀ q ∈ l, 0 < cf n q → rV n x q + cf n q * lo ≤ 0 := by
    intro hh q hq cq
    rcases a5 hh with h | ⟨p, hp, cp, rfl⟩
    · exact absurd h.1 (by simp)
    · refine dark_law (show (1 : Int) ≤ -cf n p by omega) (show 1 ≤ cf n q by omega) ?_
      have h1 := hk.2 p hp q hq cp cq
      rw [show -cf n p * rV n x q = -(cf n p * rV n x q) from Int.neg_mul _ _, show (-cf n p - 1) = -1 - cf n p by omega]
      omega
  refine ⟨lo, up, has, is_, hbet, ?_, ?_, ⟨by omega, by omega⟩, ⟨by omega, by omega⟩⟩
  · intro hh hi
    rcases a6 hi with h | ⟨q, hq, cq, rfl⟩
    · exact absurd h.1 (by simp)
    · have h1 := hup hh q hq cq
      obtain ⟨b1, b2⟩ := ceil_law (K := rV n x q) (show (1 : Int) ≤ cf n q by omega)
      have h2 : cf n q * (ceilD (rV n x q) (cf n q) - 1) < cf n q * (-lo) := by rw [Int.mul_neg]; omega
      have := Int.lt_of_mul_lt_mul_left h2 (by omega)
      omega
  · intro q hq
    have hle : ∀ t : Int, -6401000 ≤ t → t ≤ 6401000 → rV n x q + cf n q * t ≤ 0 → holdB (x.set n t) q = true := by
      intro t t1 t2 ht
      have hv := hV_set (x := x) (hs q hq).2.1 n hn t
      have hb : -640100000 ≤ cf n q * t ∧ cf n q * t ≤ 640100000 := by
        have := hc q hq
        have h := Nat.mul_le_mul (show (cf n q).natAbs ≤ 100 by omega) (show t.natAbs ≤ 6401000 by omega)
        rw [← Int.natAbs_mul] at h
        omega
      have := hr q hq
      unfold holdB
      rw [hv, (hs q hq).1, decide_eq_true (show R64 (rV n x q + cf n q * t) from ⟨by omega, by omega⟩), decide_eq_true ht]; rfl
    by_cases c0 : cf n q = 0
    · have h1 := hk.1 q hq c0
      split
      · exact hle lo blo.1 blo.2 (by rw [c0]; omega)
      · exact hle up bup.1 bup.2 (by rw [c0]; omega)
    by_cases cn : cf n q < 0
    · have h1 := a3 q hq cn
      rw [if_pos h1.1]
      refine hle lo blo.1 blo.2 ?_
      obtain ⟨b1, b2⟩ := ceil_law (K := rV n x q) (show (1 : Int) ≤ -cf n q by omega)
      have := Int.mul_le_mul_of_nonneg_left h1.2 (show 0 ≤ -cf n q by omega)
      rw [Int.neg_mul, Int.neg_mul] at this
      rw [Int.neg_mul] at b2
      omega
    · by_cases hh : has = true
      · rw [if_pos hh]
        exact hle lo blo.1 blo.2 (hup hh q hq (by omega))
      · rw [if_neg hh]
        refine hle up bup.1 bup.2 ?_
        have h1 := a4 q hq (by omega)
        obtain ⟨b1, b2⟩ := ceil_law (K := rV n x q) (show (1 : Int) ≤ cf n q by omega)
        have := Int.mul_le_mul_of_nonneg_left h1.2 (show 0 ≤ cf n q by omega)
        rw [Int.mul_neg] at this
        omega
theorem set_I64 {x : List Int} (hx : I64 x) (n : Nat) {t : Int} (ht : R64 t) : I64 (x.set n t) := by
  intro z hz
  rcases List.mem_or_eq_of_mem_set hz with h | h
  · exact hx z h
  · subst h; exact ht
theorem ShadowDark_pure (l : List S70) (x : List Int) (hQ : ∀ q ∈ l, Q30 q) (hxI : I64 x) (hlm : l.length ≤ maxLen) : ∃ k, sequiturlaw30_ShadowDark.f k l x = some true := by
  have hR := Q30_R hQ
  obtain ⟨b, hb, hp⟩ := small_ev l x (fun q hq => (hR q hq).1)
  refine Ev.at_ (f := fun k => sequiturlaw30_ShadowDark.f k l x) (Ev.bind alive30_ev (Ev.pos rfl (Ev.bind hb ?_)))
  by_cases cb : b = true
  · obtain ⟨hs, hx, n1, n2, n3, n4⟩ := hp cb
    refine Ev.pos cb ?_
    obtain ⟨n, hn⟩ : ∃ n : Nat, n = x.length - 1 := ⟨_, rfl⟩
    have hw : wrap64 ((x.length : Int) - 1) = (n : Int) := by rw [w64 (by omega) (by omega)]; omega
    have hnl : n < x.length := by omega
    have hm : ∀ q ∈ l, q.f0.f1.length ≤ 9223372036854775807 := fun q hq => Nat.le_trans (n2 q hq) (by decide)
    have hm2 : ∀ q ∈ l, q.f0.f1.length ≤ 1000000 := fun q hq => Nat.le_trans (n2 q hq) (by decide)
    rw [hw]
    refine Ev.bind (real_ev l n (by omega) hR hm) (Ev.bind (dark_ev l n (by omega) hR hm) ?_)
    have er : (castD S72.mk l n false).2 = 0 := by rw [castD_small S72.mk l n false n1 hs (by omega) (by omega)]
    have ed : (castD S72.mk l n true).2 = 0 := by rw [castD_small S72.mk l n true n1 hs (by omega) (by omega)]
    refine Ev.pos er ?_
    rw [show ((castD S72.mk l n true).2 != 0) = false by rw [ed]; rfl]
    have hj1 : dkey l n x → Ev (fun k => sequiturlaw30_ShadowDark.j1 k l x n false) true := by
      intro hk
      obtain ⟨lo, up, has, is_, e, h1, h2, h3, h4⟩ := dark_end hnl (by omega) hs hx hk
      have hB := between_ev l n x (by omega) hR hm2 hxI
      rw [e] at hB
      refine Ev.succ ?_
      simp only [sequiturlaw30_ShadowDark.j1]
      refine Ev.neg (by simp) (Ev.bind hB ?_)
      simp only [Option.bind_some, List.nil_append, List.length_nil]
      refine Ev.pos (by omega) (Ev.pos (by omega) (Ev.pos (by omega) ?_))
      rw [show ((n : Int)).toNat = n by omega]
      have hH : ∀ t, R64 t → (∀ q ∈ l, holdB (x.set n t) q = true) → Ev (fun k => sequiturref30_Holds.f k l (x.set n t)) true := by
        intro t ht hall
        refine (holds_ev l (x.set n t) (by omega) (fun q hq => smQ_good (hR q hq) (hs q hq)) (set_I64 hxI n ht)).val ?_
        rw [List.all_eq_true]; exact hall
      cases has
      · refine Ev.neg (by simp) (Ev.pos (by simp) ?_)
        rw [List.set_set]
        refine Ev.bind (hH up h4 (fun q hq => ?_)) (Ev.now fun _ => rfl)
        simpa using h2 q hq
      · refine Ev.pos (by simp) (Ev.pos (by simp) ?_)
        have hh := hH lo h3 (fun q hq => by simpa using h2 q hq)
        cases is_
        · exact Ev.neg (by simp) (Ev.bind hh (Ev.now fun _ => rfl))
        · exact Ev.pos (by simp) (Ev.pos (h1 rfl rfl) (Ev.bind hh (Ev.now fun _ => rfl)))
    have hj1t : Ev (fun k => sequiturlaw30_ShadowDark.j1 k l x n true) true := by
      refine Ev.succ ?_
      simp only [sequiturlaw30_ShadowDark.j1]
      exact Ev.pos trivial (Ev.now fun _ => rfl)
    refine Ev.succ ?_
    simp only [sequiturlaw30_ShadowDark.j0]
    refine Ev.neg (by simp) (Ev.bind (plainCast_ev l n true n1 hs (by omega) (by omega)) (Ev.bind (plHolds_ev l n x true n1 hs hR hxI) ?_))
    by_cases cD : (plD l n true).all (holdB x) = true
    · exact Ev.pos cD (hj1 (dkey_dark hnl hs cD))
    · refine Ev.neg cD (Ev.bind (exact_ev l n (by omega) hm2) ?_)
      by_cases cE : exD l n = true
      · refine Ev.pos cE (Ev.bind (plainCast_ev l n false n1 hs (by omega) (by omega)) (Ev.bind (plHolds_ev l n x false n1 hs hR hxI) ?_))
        by_cases cA : (plD l n false).all (holdB x) = true
        · rw [cA]
          exact hj1 (dkey_real hnl hs cE cA)
        · rw [show (plD l n false).all (holdB x) = false by simpa using cA]
          exact hj1t
      · exact Ev.neg cE hj1t
  · exact Ev.neg cb (Ev.now fun _ => rfl)
end Go.Proofs.Ytkfbfgkdabljiaa.Pure
