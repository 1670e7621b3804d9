/- Between which numbers a variable may be, by any values of the others, or the error, is what the reference says: for every inequalities, variable and values (asked of at most 20, of 70 monomials each, 80 values). -/
import Derived.Test.YtkfbfgkdabljiaaPShadowBetweenx
import Derived.Laws.BitsAllLaws
import Derived.Deep.Slices
import Derived.ChangeSame
import Derived.KernelRfl
import Derived.OpenShut
namespace Go.Proofs.Ytkfbfgkdabljiaa.Pure
open Go.RowKit Go.Proofs.Ytkfbfgkdabljiaa.PShadowBetween Go.Proofs.YtkfbfgkdabljiaaW.PrintWords Go.Proofs.YtkfbfgkdabljiaaW.PrintLast
set_option linter.unusedVariables false
set_option linter.unusedSimpArgs false
/-- A number, if it fits. -/
def fitI (n : Int) : Int × Bool := if -9223372036854775808 ≤ n ∧ n ≤ 9223372036854775807 then (n, true) else (0, false)
theorem abs_mul_lt {a b : Int} (h1 : -9223372036854775808 ≤ a) (h2 : a ≤ 9223372036854775807) (h3 : -9223372036854775808 ≤ b) (h4 : b ≤ 9223372036854775807) : a.natAbs * b.natAbs ≤ 85070591730234615865843651857942052864 :=
  Nat.le_trans (Nat.mul_le_mul (show a.natAbs ≤ 9223372036854775808 by omega) (show b.natAbs ≤ 9223372036854775808 by omega)) (by decide)
-- one round of the halving: x odd, y = 2^t * z, z odd
theorem u64w (n : Int) : IntKind.u64.wrap n = n % 18446744073709551616 := by
  simp [IntKind.wrap, IntKind.bits, IntKind.signed]
theorem wf64 {a : Int} (h : (Lit.int .i64 a).wf = true) : -9223372036854775808 ≤ a ∧ a ≤ 9223372036854775807 := by
  simpa [Lit.wf, IntKind.min, IntKind.max, IntKind.signed, IntKind.bits] using h
theorem w64 {n : Int} (h1 : -9223372036854775808 ≤ n) (h2 : n ≤ 9223372036854775807) : wrap64 n = n := by
  unfold wrap64; omega
def I64 (l : List Int) : Prop := ∀ x ∈ l, -9223372036854775808 ≤ x ∧ x ≤ 9223372036854775807
/-- At all great fuels the same answer. -/
def Ev {α : Type} (f : Nat → Option α) (v : α) : Prop := ∃ K, ∀ k, K ≤ k → f k = some v
theorem Ev.now {α : Type} {f : Nat → Option α} {v : α} (h : ∀ k, f k = some v) : Ev f v := ⟨0, fun k _ => h k⟩
theorem Ev.succ {α : Type} {f : Nat → Option α} {v : α} (h : Ev (fun k => f (k + 1)) v) : Ev f v := by
  obtain ⟨K, h⟩ := h
  refine ⟨K + 1, fun k hk => ?_⟩
  obtain ⟨m, rfl⟩ : ∃ m, k = m + 1 := ⟨k - 1, by omega⟩
  exact h m (by omega)
theorem Ev.bind {α β : Type} {f : Nat → Option α} {g : Nat → α → Option β} {v : α} {u : β} (h : Ev f v) (h2 : Ev (fun k => g k v) u) : Ev (fun k => (f k).bind (g k)) u := by
  obtain ⟨K, h⟩ := h
  obtain ⟨K2, h2⟩ := h2
  refine ⟨max K K2, fun k hk => ?_⟩
  show (f k).bind (g k) = some u
  rw [h k (by omega)]
  exact h2 k (by omega)
theorem Ev.of {α : Type} {f g : Nat → Option α} {v : α} (h : Ev f v) (e : ∀ k, g k = f k) : Ev g v := by
  obtain ⟨K, h⟩ := h
  exact ⟨K, fun k hk => (e k).trans (h k hk)⟩
theorem Ev.at_ {α : Type} {f : Nat → Option α} {v : α} (h : Ev f v) : ∃ k, f k = some v := by
  obtain ⟨K, h⟩ := h
  exact ⟨K, h K (Nat.le_refl _)⟩
theorem Ev.mono {α : Type} {f : Nat → Option α} {v : α} (K : Nat) (hm : ∀ k, LeO (f k) (f (k + 1))) (h : f K = some v) : Ev f v := by
  refine ⟨K, fun k hk => ?_⟩
  obtain ⟨d, rfl⟩ := Nat.exists_eq_add_of_le hk
  induction d with
  | zero => exact h
  | succ d ih => exact hm (K + d) v (ih (by omega))
theorem Ev.val {α : Type} {f : Nat → Option α} {v u : α} (h : Ev f v) (e : v = u) : Ev f u := e ▸ h
theorem Ev.pos {α : Type} {c : Prop} [Decidable c] {f g : Nat → Option α} {v : α} (h : c) (hf : Ev f v) : Ev (fun k => if c then f k else g k) v := hf.of fun k => if_pos h
theorem Ev.neg {α : Type} {c : Prop} [Decidable c] {f g : Nat → Option α} {v : α} (h : ¬ c) (hf : Ev g v) : Ev (fun k => if c then f k else g k) v := hf.of fun k => if_neg h
theorem rdM_at (l : List S68) (i : Nat) (h : i < l.length) : rd_T68 l (i:Int) = l[i] := by simp [rd_T68, h]
theorem rdQ_at (l : List S62) (i : Nat) (h : i < l.length) : rd_T62 l (i:Int) = l[i] := by simp [rd_T62, h]
theorem rdI_at (l : List S70) (i : Nat) (h : i < l.length) : rd_T70 l (i:Int) = l[i] := by simp [rd_T70, h]
/-- Are the variables in order, of the 64, and no factor zero? -/
def rightL : Int → List S68 → Bool
  | _, [] => true
  | last, m :: l => decide (last < m.f0) && decide (m.f0 < 64) && decide (m.f1 ≠ 0) && rightL m.f0 l
theorem Right_l0 (l : List S68) (hl : l.length ≤ 9223372036854775807) : ∀ (d i : Nat) (last : Int), l.length - i = d → i ≤ l.length →
    Ev (fun k => lin_Right.l0 k last l (l.length:Int) i) (if rightL last (l.drop i) = true then 0 else 1) := by
  intro d
  induction d with
  | zero =>
    intro i last h1 h2
    refine Ev.succ (Ev.now fun k => ?_)
    simp only [lin_Right.l0]
    rw [if_neg (by omega), List.drop_eq_nil_of_le (by omega)]; rfl
  | succ d ih =>
    intro i last h1 h2
    have hi : i < l.length := by omega
    rw [List.drop_eq_getElem_cons hi]
    by_cases e : last < l[i].f0 ∧ l[i].f0 < 64 ∧ l[i].f1 ≠ 0
    · obtain ⟨e1, e2, e3⟩ := e
      refine Ev.succ (Ev.of (ih (i+1) l[i].f0 (by omega) (by omega)) fun k => ?_) |>.val ?_
      · simp only [lin_Right.l0]
        rw [if_pos (by omega), if_pos (by omega), if_pos (by omega), rdM_at l i hi, if_neg (by omega), if_neg (by omega), if_neg e3, w64 (by omega) (by omega)]; rfl
      · simp only [rightL, decide_eq_true e1, decide_eq_true e2, decide_eq_true e3, Bool.true_and]
    · refine Ev.succ (Ev.now fun k => ?_)
      have hr : rightL last (l[i] :: l.drop (i+1)) = false := by
        simp only [rightL, Bool.and_eq_false_iff, decide_eq_false_iff_not]
        omega
      rw [hr]
      simp only [lin_Right.l0]
      rw [if_pos (by omega), if_pos (by omega), if_pos (by omega), rdM_at l i hi]
      by_cases e1 : l[i].f0 ≤ last
      · rw [if_pos e1]; rfl
      by_cases e2 : l[i].f0 ≥ 64
      · rw [if_neg e1, if_pos e2]; rfl
      · rw [if_neg e1, if_neg e2, if_pos (by omega)]; rfl
theorem Right_ev (K : Int) (l : List S68) (hl : l.length ≤ 9223372036854775807) : Ev (fun k => lin_Right.f k K l) (if rightL (-1) l = true then 0 else 1) := by
  have := Right_l0 l hl _ 0 (-1) rfl (by omega)
  exact this
theorem iRight_ev (K : Int) (l : List S68) (b : Bool) (hl : l.length ≤ 9223372036854775807) : Ev (fun k => ineq_Right.f k K l b) (if rightL (-1) l = true then 0 else 1) :=
  Ev.bind (Right_ev K l hl) (Ev.now fun _ => rfl)
theorem right1_ev (K : Int) (l : List S68) (hl : l.length ≤ 9223372036854775807) : Ev (fun k => lin_right_1.f k K l) (!rightL (-1) l) :=
  Ev.bind (Right_ev K l hl) (Ev.now fun _ => by cases rightL (-1) l <;> rfl)
theorem idx_l0 (l : List S62) (hl : l.length ≤ 9223372036854775807) (hm : ∀ q ∈ l, q.f1.length ≤ 9223372036854775807) : ∀ (d i : Nat), l.length - i = d → i ≤ l.length →
    ∃ v, Ev (fun k => api_Lin_117.l0 k l (l.length:Int) i) v ∧ decide (v ≥ 0) = !((l.drop i).all fun q => rightL (-1) q.f1) := by
  intro d
  induction d with
  | zero =>
    intro i h1 h2
    refine ⟨-1, Ev.succ (Ev.now fun k => ?_), ?_⟩
    · simp only [api_Lin_117.l0]
      rw [if_neg (by omega)]
    · rw [List.drop_eq_nil_of_le (by omega)]; rfl
  | succ d ih =>
    intro i h1 h2
    have hi : i < l.length := by omega
    rw [List.drop_eq_getElem_cons hi]
    have hq := right1_ev l[i].f0 l[i].f1 (hm _ (List.getElem_mem hi))
    obtain ⟨v, ev, hv⟩ := ih (i+1) (by omega) (by omega)
    have hs : ∀ k, api_Lin_117.l0 (k+1) l (l.length:Int) i = (lin_right_1.f k l[i].f0 l[i].f1).bind fun t => if t = true then some (i:Int) else api_Lin_117.l0 k l (l.length:Int) ((i+1 : Nat) : Int) := by
      intro k
      simp only [api_Lin_117.l0]
      rw [if_pos (by omega), if_pos (by omega), if_pos (by omega), rdQ_at l i hi, w64 (by omega) (by omega)]; rfl
    by_cases e : rightL (-1) l[i].f1 = true
    · rw [e] at hq
      refine ⟨v, Ev.succ (Ev.of (Ev.bind hq ?_) hs), ?_⟩
      · exact Ev.of ev fun k => by simp
      · rw [hv, List.all_cons, e, Bool.true_and]
    · have e' : rightL (-1) l[i].f1 = false := by simpa using e
      rw [e'] at hq
      refine ⟨i, Ev.succ (Ev.of (Ev.bind hq ?_) hs), ?_⟩
      · exact Ev.now fun k => by simp
      · rw [List.all_cons, e']; simp
theorem linright_ev (l : List S62) (hl : l.length ≤ 9223372036854775807) (hm : ∀ q ∈ l, q.f1.length ≤ 9223372036854775807) : Ev (fun k => lin_right.f k l) (l.all fun q => rightL (-1) q.f1) := by
  obtain ⟨v, ev, hv⟩ := idx_l0 l hl hm _ 0 rfl (by omega)
  rw [List.drop_zero] at hv
  refine Ev.bind (v := decide (v ≥ 0)) (Ev.bind ev (Ev.now fun _ => rfl)) (Ev.now fun _ => ?_)
  rw [hv]; simp
theorem rightL_mem : ∀ (l : List S68) (last : Int), rightL last l = true → ∀ m ∈ l, last < m.f0 ∧ m.f0 < 64 ∧ m.f1 ≠ 0 := by
  intro l
  induction l with
  | nil => intro last _ m hm; cases hm
  | cons a l ih =>
    intro last h m hm
    simp only [rightL, Bool.and_eq_true, decide_eq_true_eq] at h
    rcases List.mem_cons.1 hm with e | e
    · subst e; exact ⟨h.1.1.1, h.1.1.2, h.1.2⟩
    · have := ih a.f0 h.2 m e; omega
theorem rightL_len : ∀ (l : List S68) (last : Int), last ≤ 63 → rightL last l = true → (l.length : Int) ≤ 63 - last := by
  intro l
  induction l with
  | nil => intro last h _; simp; omega
  | cons a l ih =>
    intro last h0 h
    simp only [rightL, Bool.and_eq_true, decide_eq_true_eq] at h
    have := ih a.f0 (by omega) h.2
    simp only [List.length_cons]; omega
/-- The monomials' ranges. -/
def M64 (l : List S68) : Prop := ∀ m ∈ l, (-9223372036854775808 ≤ m.f0 ∧ m.f0 ≤ 9223372036854775807) ∧ -9223372036854775808 ≤ m.f1 ∧ m.f1 ≤ 9223372036854775807
def R64 (n : Int) : Prop := -9223372036854775808 ≤ n ∧ n ≤ 9223372036854775807
theorem in64_of {n : Int} (h : R64 n) : in64 n = true := by
  simp only [in64, Bool.and_eq_true, decide_eq_true_eq]; exact h
theorem rd_R64 {x : List Int} (hx : I64 x) (i : Int) : R64 (rd x i) := by
  unfold rd
  by_cases h : i.toNat < x.length
  · rw [List.getD_eq_getElem?_getD, List.getElem?_eq_getElem h]; exact hx _ (List.getElem_mem h)
  · rw [List.getD_eq_getElem?_getD, List.getElem?_eq_none (by omega)]; exact ⟨by simp, by simp⟩
theorem mul_R64 {a b : Int} (ha : R64 a) (hb : R64 b) : -85070591730234615865843651857942052864 ≤ a * b ∧ a * b ≤ 85070591730234615865843651857942052864 := by
  have h := abs_mul_lt ha.1 ha.2 hb.1 hb.2
  rw [← Int.natAbs_mul] at h
  omega
theorem wrap192_id {s : Int} (h1 : -3138550867693340381917894711603833208051177722232017256448 ≤ s) (h2 : s < 3138550867693340381917894711603833208051177722232017256448) : wrap192 s = s := by
  unfold wrap192; omega
/-- The constant divided, rounded up, and a monomial divided. -/
def ceilD (K d : Int) : Int := -((-K) / d)
theorem tdiv_R64 {a d : Int} (ha : R64 a) (hd : 1 ≤ d) : R64 (Int.tdiv a d) ∧ (0 < d → (0 ≤ a → Int.tdiv a d = a / d) ∧ (a < 0 → Int.tdiv a d = -((-a) / d))) := by
  have h : 0 < d → (0 ≤ a → Int.tdiv a d = a / d) ∧ (a < 0 → Int.tdiv a d = -((-a) / d)) := by
    intro _
    constructor
    · intro h0; exact Int.tdiv_eq_ediv_of_nonneg h0
    · intro h0
      have h1 : Int.tdiv (-a) d = (-a) / d := Int.tdiv_eq_ediv_of_nonneg (by omega)
      rw [Int.neg_tdiv] at h1; omega
  refine ⟨?_, h⟩
  obtain ⟨h1, h2⟩ := h (by omega)
  have hA := ha.1
  have hB := ha.2
  by_cases e : 0 ≤ a
  · rw [h1 e]
    have p1 : 0 ≤ a / d := Int.ediv_nonneg e (by omega)
    have p2 : a / d ≤ a := Int.ediv_le_self d e
    exact ⟨by omega, by omega⟩
  · rw [h2 (by omega)]
    have p1 : 0 ≤ (-a) / d := Int.ediv_nonneg (by omega) (by omega)
    have p2 : (-a) / d ≤ -a := Int.ediv_le_self d (by omega)
    exact ⟨by omega, by omega⟩
theorem ceil_law {K d : Int} (hd : 1 ≤ d) : d * (ceilD K d - 1) < K ∧ K ≤ d * ceilD K d := by
  unfold ceilD
  have h1 := Int.ediv_mul_le (-K) (show d ≠ 0 by omega)
  have h2 := Int.lt_ediv_add_one_mul_self (-K) (show 0 < d by omega)
  rw [Int.mul_comm] at h1 h2
  generalize (-K) / d = q at *
  rw [Int.mul_add] at h2
  rw [Int.mul_sub, Int.mul_neg]
  omega
theorem ceilD_uniq {K d c : Int} (hd : 1 ≤ d) (h1 : d * (c - 1) < K) (h2 : K ≤ d * c) : c = ceilD K d := by
  obtain ⟨p1, p2⟩ := ceil_law (K := K) hd
  have a1 : d * (c - 1) < d * ceilD K d := by omega
  have a2 : d * (ceilD K d - 1) < d * c := by omega
  have b1 := Int.lt_of_mul_lt_mul_left a1 (by omega)
  have b2 := Int.lt_of_mul_lt_mul_left a2 (by omega)
  omega
theorem Ceil_eq {K d : Int} (hK : R64 K) (hd : 1 ≤ d) (hd2 : d ≤ 9223372036854775807) : num_Ceil.f K d = some (ceilD K d, true) := by
  have hov : num_over.f K d = some false := by
    unfold num_over.f
    rw [if_neg (by omega)]
    split
    · rw [show (d == -1) = false from beq_eq_false_iff_ne.2 (by omega)]
    · rfl
  unfold num_Ceil.f
  rw [hov]
  simp only [Option.bind_some]
  rw [if_neg (by simp), if_neg (by omega)]
  have hT := (tdiv_R64 hK hd).1
  have he : K = d * Int.tdiv K d + Int.tmod K d := by rw [Int.add_comm]; exact (Int.tmod_add_mul_tdiv K d).symm
  have hW : wrap64 (Int.tdiv K d) = Int.tdiv K d := w64 hT.1 hT.2
  rw [hW]
  by_cases e : Int.tmod K d = 0
  · rw [if_pos e]
    congr 2
    refine ceilD_uniq hd ?_ ?_ <;> (try rw [Int.mul_sub]) <;> omega
  · rw [if_neg e]
    by_cases n : K < 0
    · have hm : Int.tmod K d ≤ 0 := by
        have := Int.tmod_nonneg (a := -K) d (by omega)
        rw [Int.neg_tmod] at this; omega
      have hm2 : -d < Int.tmod K d := by
        have := Int.tmod_lt_of_pos (-K) (show 0 < d by omega)
        rw [Int.neg_tmod] at this; omega
      rw [decide_eq_true n, decide_eq_false (by omega), if_neg (by decide)]
      congr 2
      refine ceilD_uniq hd ?_ ?_ <;> (try rw [Int.mul_sub]) <;> omega
    · have hm : 0 ≤ Int.tmod K d := Int.tmod_nonneg d (by omega)
      have hm2 : Int.tmod K d < d := Int.tmod_lt_of_pos K (by omega)
      rw [decide_eq_false n, decide_eq_false (show ¬ d < 0 by omega), if_pos (by decide)]
      have hd1 : d ≠ 1 := by intro h; subst h; simp at e
      have hq : Int.tdiv K d ≤ K / 2 := by
        rw [(tdiv_R64 hK hd).2 (by omega) |>.1 (by omega)]
        have : 2 * (K / d) ≤ d * (K / d) := Int.mul_le_mul_of_nonneg_right (by omega) (Int.ediv_nonneg (by omega) (by omega))
        have := Int.mul_ediv_self_le (x := K) (k := d) (by omega)
        omega
      have hK1 := hK.2
      have hT1 := hT.1
      rw [w64 (by omega) (by omega)]
      congr 2
      refine ceilD_uniq hd ?_ ?_ <;> (try rw [Int.mul_sub]) <;> (try rw [Int.mul_add]) <;> omega
instance instR64 (n : Int) : Decidable (R64 n) := inferInstanceAs (Decidable (_ ∧ _))
theorem evalFold_le (x : List Int) (hx : I64 x) : ∀ (l : List S68) (s : Int), M64 l →
    s - l.length * 85070591730234615865843651857942052864 ≤ l.foldl (evalStep x) s ∧ l.foldl (evalStep x) s ≤ s + l.length * 85070591730234615865843651857942052864 := by
  intro l
  induction l with
  | nil => intro s _; simp
  | cons a l ih =>
    intro s h
    have h1 := ih (evalStep x s a) (fun m hm => h m (List.mem_cons_of_mem _ hm))
    have h2 := mul_R64 (h a (List.mem_cons_self ..)).2 (rd_R64 hx a.f0)
    have h3 : s - 85070591730234615865843651857942052864 ≤ evalStep x s a ∧ evalStep x s a ≤ s + 85070591730234615865843651857942052864 := by
      unfold evalStep; split <;> omega
    simp only [List.foldl_cons, List.length_cons]
    omega
theorem evalSum_le (K : Int) (l : List S68) (x : List Int) (hK : R64 K) (hl : M64 l) (hx : I64 x) (hr : rightL (-1) l = true) :
    -3138550867693340381917894711603833208051177722232017256448 ≤ evalSum K l x ∧ evalSum K l x < 3138550867693340381917894711603833208051177722232017256448 := by
  have h := evalFold_le x hx l (0 + K * 1) hl
  have h2 := rightL_len l (-1) (by omega) hr
  unfold evalSum
  have := hK.1
  have := hK.2
  omega
theorem Eval_ev (K : Int) (l : List S68) (x : List Int) (hK : R64 K) (hl : M64 l) (hx : I64 x) (hlen : l.length ≤ 9223372036854775807) :
    Ev (fun k => lin_Eval.f k K l x) (if rightL (-1) l = true then (if (fit64 (evalSum K l x)).2 = true then ((fit64 (evalSum K l x)).1, 0) else (0, 5)) else (0, 1)) := by
  have h := linright_ev [⟨K, l⟩] (by simp) (by intro q hq; simp at hq; subst hq; exact hlen)
  refine Ev.bind h (Ev.now fun _ => ?_)
  simp only [List.all_cons, List.all_nil, Bool.and_true]
  by_cases e : rightL (-1) l = true
  · rw [if_pos e, if_pos e]
    have hb := evalSum_le K l x hK hl hx e
    have hok : (in64 K && l.all (evalOk x)) = true := by
      rw [in64_of hK, Bool.true_and, List.all_eq_true]
      intro m hm
      have := (rightL_mem l (-1) e m hm).1
      simp only [evalOk, Bool.and_eq_true, Bool.or_eq_true, decide_eq_true_eq]
      exact ⟨by omega, .inr ⟨in64_of (hl m hm).2, in64_of (rd_R64 hx _)⟩⟩
    rw [if_pos hok]
    unfold fit192
    rw [wrap192_id hb.1 hb.2]
  · rw [if_neg e, if_neg e]
theorem evalFold_add (x : List Int) : ∀ (l : List S68) (s : Int), l.foldl (evalStep x) s = s + l.foldl (evalStep x) 0 := by
  intro l
  induction l with
  | nil => intro s; simp
  | cons a l ih =>
    intro s
    simp only [List.foldl_cons]
    rw [ih (evalStep x s a), ih (evalStep x 0 a)]
    unfold evalStep; split <;> omega
theorem evalSum_eq (K : Int) (l : List S68) (x : List Int) : evalSum K l x = K + l.foldl (evalStep x) 0 := by
  unfold evalSum; rw [evalFold_add]; omega
theorem Far_eq {a : Int} (h1 : -9223372036854775808 ≤ a) (h2 : a ≤ 9223372036854775807) : sequiturref01_Far.f a = some (a.natAbs : Int) := by
  unfold sequiturref01_Far.f
  simp only [u64w]
  split <;> congr 1 <;> omega
/-- The two halves of a number, up to a multiple of 2^128. -/
def hiW (v : Int) : Int := wrap64 (v / 18446744073709551616)
def loW (v : Int) : Int := v % 18446744073709551616
theorem xor_all (x : Int) (h1 : 0 ≤ x) (h2 : x < 18446744073709551616) : Go.bits .xor .u64 18446744073709551615 x = 18446744073709551615 - x := by
  obtain ⟨n, rfl⟩ := Int.eq_ofNat_of_zero_le h1
  refine Eq.trans (u64_xor_nat 18446744073709551615 n (by decide) (by omega)) ?_
  have h : (BitVec.allOnes 64 ^^^ BitVec.ofNat 64 n).toNat = 18446744073709551615 ^^^ n := by
    rw [BitVec.toNat_xor, BitVec.toNat_allOnes, BitVec.toNat_ofNat, Nat.mod_eq_of_lt (by omega)]
  rw [BitVec.allOnes_xor, BitVec.toNat_not, BitVec.toNat_ofNat, Nat.mod_eq_of_lt (by omega)] at h
  omega
theorem Of_eq {a : Int} (h1 : -9223372036854775808 ≤ a) (h2 : a ≤ 9223372036854775807) : sequiturref01_Of.f a = some (hiW a, loW a) := by
  unfold sequiturref01_Of.f hiW loW wrap64
  simp only [u64w]
  split <;> congr 2 <;> omega
theorem Plus_eq (v w : Int) : sequiturref01_Plus.f (hiW v) (loW v) (hiW w) (loW w) = some (hiW (v + w), loW (v + w)) := by
  unfold sequiturref01_Plus.f hiW loW wrap64
  simp only [u64w]
  split <;> congr 2 <;> omega
theorem hiW0 : hiW 0 = 0 := by unfold hiW wrap64; omega
theorem loW0 : loW 0 = 0 := by decide
theorem hiW1 : hiW 1 = 0 := by unfold hiW wrap64; omega
theorem loW1 : loW 1 = 1 := by decide
theorem Minus_eq (v : Int) : sequiturref01_Minus.f (hiW v) (loW v) = some (hiW (-v), loW (-v)) := by
  unfold sequiturref01_Minus.f
  rw [xor_all _ (by unfold loW; omega) (by unfold loW; omega)]
  rw [show wrap64 (-1 - hiW v) = hiW (-1 - v) by unfold hiW wrap64; omega, show 18446744073709551615 - loW v = loW (-1 - v) by unfold loW; omega]
  have := Plus_eq (-1 - v) 1
  rw [hiW1, loW1] at this
  rw [this, show -1 - v + 1 = -v by omega]; rfl
theorem Fits_eq (v : Int) (h1 : -170141183460469231731687303715884105728 ≤ v) (h2 : v < 170141183460469231731687303715884105728) : sequiturref01_Fits.f (hiW v) (loW v) = some (fitI v) := by
  have e : wrap64 (loW v) = if loW v < 9223372036854775808 then loW v else loW v - 18446744073709551616 := by
    have : 0 ≤ loW v ∧ loW v < 18446744073709551616 := by unfold loW; omega
    unfold wrap64; split <;> omega
  have hh : hiW v = v / 18446744073709551616 := by unfold hiW; exact w64 (by omega) (by omega)
  unfold sequiturref01_Fits.f fitI
  rw [e, hh]
  unfold loW
  repeat' split
  all_goals first | omega | (congr 2; omega) | rfl
theorem Times_l0 : ∀ (u : Nat) (x o : Int), u < 18446744073709551616 → ∃ K, ∀ k, K ≤ k → sequiturref01_Times.l0 k u (hiW x) (loW x) (hiW o) (loW o) = some (hiW (o + u * x), loW (o + u * x)) := by
  intro u
  induction u using Nat.strongRecOn with
  | _ u ih =>
    intro x o hu
    by_cases h : u = 0
    · subst h
      refine ⟨1, fun k hk => ?_⟩
      obtain ⟨m, rfl⟩ : ∃ m, k = m + 1 := ⟨k - 1, by omega⟩
      simp only [sequiturref01_Times.l0]
      rw [if_neg (by omega)]; simp
    · have ht : Int.tdiv (u:Int) 2 = ((u / 2 : Nat) : Int) := (Int.ofNat_tdiv u 2).symm
      have hm : Int.tmod (u:Int) 2 = ((u % 2 : Nat) : Int) := (Int.ofNat_tmod u 2).symm
      have hw : IntKind.u64.wrap (Int.tdiv (u:Int) 2) = ((u / 2 : Nat) : Int) := by rw [ht, u64w]; omega
      have hx : ((u / 2 : Nat) : Int) * (x + x) = ((u - u % 2 : Nat) : Int) * x := by
        rw [← Int.two_mul, ← Int.mul_assoc]; congr 1; omega
      by_cases e : u % 2 = 1
      · obtain ⟨K, ev⟩ := ih (u / 2) (by omega) (x + x) (o + x) (by omega)
        refine ⟨K + 1, fun k hk => ?_⟩
        obtain ⟨m, rfl⟩ : ∃ m, k = m + 1 := ⟨k - 1, by omega⟩
        simp only [sequiturref01_Times.l0]
        rw [if_pos (by omega), hm, e, if_pos (by rfl), Plus_eq, Plus_eq]
        simp only [Option.bind_some]
        rw [hw, ev m (by omega), hx, e]
        have : o + x + ((u - 1 : Nat) : Int) * x = o + u * x := by
          have : (u : Int) = ((u - 1 : Nat) : Int) + 1 := by omega
          rw [this, Int.add_mul]; omega
        rw [this]
      · obtain ⟨K, ev⟩ := ih (u / 2) (by omega) (x + x) o (by omega)
        refine ⟨K + 1, fun k hk => ?_⟩
        obtain ⟨m, rfl⟩ : ∃ m, k = m + 1 := ⟨k - 1, by omega⟩
        simp only [sequiturref01_Times.l0]
        rw [if_pos (by omega), hm, if_neg (by omega), Plus_eq]
        simp only [Option.bind_some]
        rw [hw, ev m (by omega), hx, show u % 2 = 0 by omega]; rfl
theorem Times_ev {a b : Int} (h1 : -9223372036854775808 ≤ a) (h2 : a ≤ 9223372036854775807) (h3 : -9223372036854775808 ≤ b) (h4 : b ≤ 9223372036854775807) :
    ∃ K, ∀ k, K ≤ k → sequiturref01_Times.f k a b = some (hiW (a * b), loW (a * b)) := by
  by_cases hb : b < 0
  · obtain ⟨K, ev⟩ := Times_l0 b.natAbs (-a) 0 (by omega)
    refine ⟨K + 1, fun k hk => ?_⟩
    obtain ⟨m, rfl⟩ : ∃ m, k = m + 1 := ⟨k - 1, by omega⟩
    unfold sequiturref01_Times.f
    rw [Of_eq h1 h2]
    simp only [Option.bind_some]
    rw [if_pos hb, Minus_eq]
    simp only [Option.bind_some, sequiturref01_Times.j0]
    rw [Far_eq h3 h4]
    simp only [Option.bind_some]
    have e : (0:Int) + (b.natAbs : Int) * -a = a * b := by
      rw [show (b.natAbs : Int) = -b by omega, Int.neg_mul_neg, Int.mul_comm]; omega
    rw [← e]
    have := ev m (by omega)
    rw [hiW0, loW0] at this
    exact this
  · obtain ⟨K, ev⟩ := Times_l0 b.natAbs a 0 (by omega)
    refine ⟨K + 1, fun k hk => ?_⟩
    obtain ⟨m, rfl⟩ : ∃ m, k = m + 1 := ⟨k - 1, by omega⟩
    unfold sequiturref01_Times.f
    rw [Of_eq h1 h2]
    simp only [Option.bind_some]
    rw [if_neg hb]
    simp only [sequiturref01_Times.j0]
    rw [Far_eq h3 h4]
    simp only [Option.bind_some]
    have e : (0:Int) + (b.natAbs : Int) * a = a * b := by
      rw [show (b.natAbs : Int) = b by omega, Int.mul_comm]; omega
    rw [← e]
    have := ev m (by omega)
    rw [hiW0, loW0] at this
    exact this
theorem fit64_R {n : Int} (h : R64 n) : fit64 n = (n, true) := by
  have h' : -9223372036854775808 ≤ n ∧ n ≤ 9223372036854775807 := h
  unfold fit64; rw [if_pos h']
theorem fit64_N {n : Int} (h : ¬ R64 n) : fit64 n = (0, false) := by
  have h' : ¬ (-9223372036854775808 ≤ n ∧ n ≤ 9223372036854775807) := h
  unfold fit64; rw [if_neg h']
/-- A variable's value, 0 where none is told. -/
def xv (x : List Int) (v : Nat) : Int := if (v : Int) < (x.length : Int) then rd x v else 0
/-- The monomials' value. -/
def valL (l : List S68) (x : List Int) : Int := l.foldl (evalStep x) 0
theorem valL_cons (m : S68) (l : List S68) (x : List Int) (h0 : 0 ≤ m.f0) : valL (m :: l) x = m.f1 * xv x m.f0.toNat + valL l x := by
  unfold valL
  rw [List.foldl_cons, evalFold_add]
  congr 1
  unfold evalStep xv
  rw [show ((m.f0.toNat : Nat) : Int) = m.f0 by omega]
  split <;> simp
theorem evalSum_val (K : Int) (l : List S68) (x : List Int) : evalSum K l x = K + valL l x := evalSum_eq K l x
theorem hiW_small {p : Int} (h1 : -85070591730234615865843651857942052864 ≤ p) (h2 : p ≤ 85070591730234615865843651857942052864) : hiW p = p / 18446744073709551616 := by
  unfold hiW; exact w64 (by omega) (by omega)
def fitR (s : Int) : Int × Bool := if R64 s then (s, true) else (0, false)
theorem fitI_R (s : Int) : fitI s = fitR s := rfl
/-- How many times a variable stands in a form: what is met first. -/
def coefI : List S68 → Int → Int
  | [], _ => 0
  | m :: l, v => if m.f0 = v then m.f1 else coefI l v
theorem right27_l0 (K : Int) (l : List S68) (hl : l.length ≤ 9223372036854775807) : ∀ (d i : Nat) (last : Int), l.length - i = d → i ≤ l.length →
    Ev (fun k => sequiturref27_Right.l0 k last i K l) (if rightL last (l.drop i) = true then 0 else 1) := by
  intro d
  induction d with
  | zero =>
    intro i last h1 h2
    refine Ev.succ (Ev.now fun k => ?_)
    simp only [sequiturref27_Right.l0]
    rw [if_neg (by omega), List.drop_eq_nil_of_le (by omega)]; rfl
  | succ d ih =>
    intro i last h1 h2
    have hi : i < l.length := by omega
    rw [List.drop_eq_getElem_cons hi]
    by_cases e : last < l[i].f0 ∧ l[i].f0 < 64 ∧ l[i].f1 ≠ 0
    · obtain ⟨e1, e2, e3⟩ := e
      refine Ev.succ (Ev.of (ih (i+1) l[i].f0 (by omega) (by omega)) fun k => ?_) |>.val ?_
      · simp only [sequiturref27_Right.l0]
        rw [if_pos (by omega), if_pos (by omega), rdM_at l i hi, if_neg (by omega), if_neg (by omega), if_neg e3, w64 (by omega) (by omega)]; rfl
      · simp only [rightL, decide_eq_true e1, decide_eq_true e2, decide_eq_true e3, Bool.true_and]
    · refine Ev.succ (Ev.now fun k => ?_)
      have hr : rightL last (l[i] :: l.drop (i+1)) = false := by
        simp only [rightL, Bool.and_eq_false_iff, decide_eq_false_iff_not]
        omega
      rw [hr]
      simp only [sequiturref27_Right.l0]
      rw [if_pos (by omega), if_pos (by omega), rdM_at l i hi]
      by_cases e1 : l[i].f0 ≤ last
      · rw [if_pos e1]; rfl
      by_cases e2 : l[i].f0 ≥ 64
      · rw [if_neg e1, if_pos e2]; rfl
      · rw [if_neg e1, if_neg e2, if_pos (by omega)]; rfl
theorem right27_ev (K : Int) (l : List S68) (hl : l.length ≤ 9223372036854775807) : Ev (fun k => sequiturref27_Right.f k K l) (if rightL (-1) l = true then 0 else 1) := by
  have := right27_l0 K l hl _ 0 (-1) rfl (by omega)
  exact this
theorem by27_l0 (K : Int) (l : List S68) (v : Int) (hlen : l.length ≤ 1000000) : ∀ (n i : Nat) (last : Int), l.length - i = n → i ≤ l.length → rightL last (l.drop i) = true →
    Ev (fun k => sequiturref27_By.l0 k v i K l) (coefI (l.drop i) v) := by
  intro n
  induction n with
  | zero =>
    intro i last h1 h2 _
    refine Ev.succ (Ev.now fun k => ?_)
    simp only [sequiturref27_By.l0]
    rw [if_neg (by omega), List.drop_eq_nil_of_le (by omega)]; rfl
  | succ n ih =>
    intro i last h1 h2 hr
    have hi : i < l.length := by omega
    rw [List.drop_eq_getElem_cons hi] at hr ⊢
    have hr2 := hr
    simp only [rightL, Bool.and_eq_true, decide_eq_true_eq] at hr2
    by_cases e : l[i].f0 = v
    · refine Ev.succ (Ev.now fun k => ?_)
      simp only [sequiturref27_By.l0, coefI]
      rw [if_pos (by omega), if_pos (by omega), rdM_at l i hi, if_pos e, if_pos e]
    · refine (Ev.succ (Ev.of (ih (i+1) l[i].f0 (by omega) (by omega) hr2.2) fun k => ?_)).val ?_
      · simp only [sequiturref27_By.l0]
        rw [if_pos (by omega), if_pos (by omega), rdM_at l i hi, if_neg e, w64 (by omega) (by omega)]; rfl
      · simp only [coefI]; rw [if_neg e]
theorem by27_ev (K : Int) (l : List S68) (v : Int) (hr : rightL (-1) l = true) : Ev (fun k => sequiturref27_By.f k K l v) (coefI l v) := by
  have hl := rightL_len l (-1) (by omega) hr
  have := by27_l0 K l v (by omega) _ 0 (-1) rfl (by omega) (by rw [List.drop_zero]; exact hr)
  exact this
/-- A total: its upper and its lower sum, and what it comes to. -/
def tv (H L : Int) : Int := H * 18446744073709551616 + L
theorem More27_ev (H L : Int) {a b : Int} (ha : R64 a) (hb : R64 b) : Ev (fun k => sequiturref27_More.f k (hiW H) (loW H) (hiW L) (loW L) a b) (hiW (H + a * b / 18446744073709551616), loW (H + a * b / 18446744073709551616), hiW (L + a * b % 18446744073709551616), loW (L + a * b % 18446744073709551616)) := by
  have hp := mul_R64 ha hb
  have ht : Ev (fun k => sequiturref01_Times.f k a b) (hiW (a * b), loW (a * b)) := Times_ev ha.1 ha.2 hb.1 hb.2
  refine Ev.bind ht (Ev.now fun k => ?_)
  generalize a * b = p at *
  simp only
  rw [hiW_small hp.1 hp.2, Of_eq (by omega) (by omega)]
  simp only [Option.bind_some]
  rw [Plus_eq]
  simp only [Option.bind_some]
  have e0 : (0 : Int) = hiW (p % 18446744073709551616) := by unfold hiW wrap64; omega
  have e1 : loW p = loW (p % 18446744073709551616) := by unfold loW; omega
  rw [e1]
  have := Plus_eq L (p % 18446744073709551616)
  rw [← e0] at this
  rw [this]; rfl
theorem TFits27_eq {H L : Int} (h1 : -1000000000000000000000000000 ≤ H) (h2 : H ≤ 1000000000000000000000000000) (h3 : 0 ≤ L) (h4 : L ≤ 1000000000000000000000000000) : sequiturref27_Fits.f (hiW H) (loW H) (hiW L) (loW L) = some (fitR (tv H L)) := by
  unfold sequiturref27_Fits.f
  have hc : hiW L = L / 18446744073709551616 := by unfold hiW; rw [w64 (by omega) (by omega)]
  rw [hc, Of_eq (by omega) (by omega)]
  simp only [Option.bind_some]
  rw [Plus_eq]
  simp only [Option.bind_some]
  rw [Fits_eq _ (by omega) (by omega), fitI_R]
  simp only [Option.bind_some]
  have ht : H + L / 18446744073709551616 = tv H L / 18446744073709551616 := by unfold tv; omega
  have hm : loW L = loW (tv H L) := by unfold loW tv; omega
  have hb1 : -3138550867693340381917894711603833208051177722232017256448 ≤ tv H L := by unfold tv; omega
  have hb2 : tv H L < 3138550867693340381917894711603833208051177722232017256448 := by unfold tv; omega
  rw [ht, hm]
  generalize tv H L = s at *
  unfold fitR
  by_cases e : R64 (s / 18446744073709551616)
  · rw [if_pos e]
    simp only [if_true]
    have e1 := e.1
    have e2 := e.2
    have hh : s / 18446744073709551616 = hiW s := by unfold hiW; rw [w64 (by omega) (by omega)]
    rw [hh, Fits_eq s (by omega) (by omega), fitI_R]
    rfl
  · rw [if_neg e]
    simp only [Bool.false_eq_true, if_false]
    rw [if_neg (fun h : R64 s => e (by have := h.1; have := h.2; exact ⟨by omega, by omega⟩))]
theorem coefI_R64 : ∀ (l : List S68) (v : Int), M64 l → R64 (coefI l v) := by
  intro l v
  induction l with
  | nil => intro _; exact ⟨by simp [coefI], by simp [coefI]⟩
  | cons m l ih =>
    intro hM
    simp only [coefI]
    split
    · exact (hM m (List.mem_cons_self ..)).2
    · exact ih (fun a ha => hM a (List.mem_cons_of_mem _ ha))
theorem st_tv {H L p r t : Int} (h : tv H L + (p + r) = t) : tv (H + p / 18446744073709551616) (L + p % 18446744073709551616) + r = t := by unfold tv at *; omega
theorem st_lo {i H p : Int} (b : -(i * 9223372036854775808) ≤ H) (hp : -85070591730234615865843651857942052864 ≤ p) : -((i + 1) * 9223372036854775808) ≤ H + p / 18446744073709551616 := by omega
theorem st_hi {i H p : Int} (b : H ≤ i * 9223372036854775808) (hp : p ≤ 85070591730234615865843651857942052864) : H + p / 18446744073709551616 ≤ (i + 1) * 9223372036854775808 := by omega
theorem st_nn {L p : Int} (b : 0 ≤ L) : 0 ≤ L + p % 18446744073709551616 := by omega
theorem st_up {i L p : Int} (b : L ≤ i * 18446744073709551616) : L + p % 18446744073709551616 ≤ (i + 1) * 18446744073709551616 := by omega
theorem linBy_l0 (l : List S68) (v : Int) (hlen : l.length ≤ 9223372036854775807) : ∀ (n i : Nat), l.length - i = n → i ≤ l.length → Ev (fun k => lin_By.l0 k v l (l.length : Int) i) (coefI (l.drop i) v) := by
  intro n
  induction n with
  | zero =>
    intro i h1 h2
    refine Ev.succ (Ev.now fun k => ?_)
    simp only [lin_By.l0]
    rw [if_neg (by omega), List.drop_eq_nil_of_le (by omega)]; rfl
  | succ n ih =>
    intro i h1 h2
    have hi : i < l.length := by omega
    rw [List.drop_eq_getElem_cons hi]
    by_cases e : l[i].f0 = v
    · refine Ev.succ (Ev.now fun k => ?_)
      simp only [lin_By.l0, coefI]
      rw [if_pos (by omega), if_pos (by omega), if_pos (by omega), rdM_at l i hi, if_pos e, if_pos e]
    · refine (Ev.succ (Ev.of (ih (i+1) (by omega) (by omega)) fun k => ?_)).val ?_
      · simp only [lin_By.l0]
        rw [if_pos (by omega), if_pos (by omega), if_pos (by omega), rdM_at l i hi, if_neg e, w64 (by omega) (by omega)]; rfl
      · simp only [coefI]; rw [if_neg e]
theorem linBy_ev (K : Int) (l : List S68) (v : Int) (hlen : l.length ≤ 9223372036854775807) : Ev (fun k => lin_By.f k K l v) (coefI l v) := by
  have := linBy_l0 l v hlen _ 0 rfl (by omega)
  exact this
/-- A form without a variable. -/
def lessL (l : List S68) (v : Int) : List S68 := l.filter fun m => decide (m.f0 ≠ v)
theorem lessL_right (v : Int) : ∀ (l : List S68) (last : Int), rightL last l = true → rightL last (lessL l v) = true := by
  intro l
  induction l with
  | nil => intro _ _; rfl
  | cons m l ih =>
    intro last h
    have h0 := h
    simp only [rightL, Bool.and_eq_true, decide_eq_true_eq] at h
    unfold lessL
    rw [List.filter_cons]
    by_cases e : m.f0 = v
    · rw [if_neg (by simp [e])]
      have h3 := ih m.f0 h.2
      show rightL last (lessL l v) = true
      revert h3
      cases lessL l v with
      | nil => intro _; rfl
      | cons b t =>
        intro h3
        simp only [rightL, Bool.and_eq_true, decide_eq_true_eq] at h3 ⊢
        exact ⟨⟨⟨by omega, h3.1.1.2⟩, h3.1.2⟩, h3.2⟩
    · rw [if_pos (by simp [e])]
      simp only [rightL, Bool.and_eq_true, decide_eq_true_eq]
      exact ⟨h.1, ih m.f0 h.2⟩
theorem lessL_M64 {l : List S68} (v : Int) (h : M64 l) : M64 (lessL l v) := fun m hm => h m (List.mem_filter.1 hm).1
def cf (v : Int) (q : S70) : Int := coefI q.f0.f1 v
def okI (q : S70) : Bool := !q.f1 && rightL (-1) q.f0.f1
def wrongB (l : List S70) (v : Int) : Bool := decide (v < 0) || decide (v ≥ 64) || !(l.all okI)
theorem wrong1_ev (K : Int) (l : List S68) (b : Bool) (hlen : l.length ≤ 9223372036854775807) : Ev (fun k => shadow_wrong_1.f k K l b) (!okI ⟨⟨K, l⟩, b⟩) := by
  cases b
  · refine Ev.neg (by simp) (Ev.bind (iRight_ev K l false hlen) (Ev.now fun _ => ?_))
    unfold okI
    by_cases e : rightL (-1) l = true
    · simp [e]
    · simp [e]
  · exact Ev.pos rfl (Ev.now fun _ => rfl)
theorem idx30_l0 (l : List S70) (hl : l.length ≤ 1000000) (hm : ∀ q ∈ l, q.f0.f1.length ≤ 9223372036854775807) : ∀ (d i : Nat), l.length - i = d → i ≤ l.length →
    ∃ v, Ev (fun k => api_Ineq_104.l0 k l (l.length:Int) i) v ∧ decide (v ≥ 0) = !((l.drop i).all okI) := by
  intro d
  induction d with
  | zero =>
    intro i h1 h2
    refine ⟨-1, Ev.succ (Ev.now fun k => ?_), ?_⟩
    · simp only [api_Ineq_104.l0]
      rw [if_neg (by omega)]
    · rw [List.drop_eq_nil_of_le (by omega)]; rfl
  | succ d ih =>
    intro i h1 h2
    have hi : i < l.length := by omega
    rw [List.drop_eq_getElem_cons hi]
    have hq := wrong1_ev l[i].f0.f0 l[i].f0.f1 l[i].f1 (hm _ (List.getElem_mem hi))
    obtain ⟨v, ev, hv⟩ := ih (i+1) (by omega) (by omega)
    have hs : ∀ k, api_Ineq_104.l0 (k+1) l (l.length:Int) i = (shadow_wrong_1.f k l[i].f0.f0 l[i].f0.f1 l[i].f1).bind fun t => if t = true then some (i:Int) else api_Ineq_104.l0 k l (l.length:Int) ((i+1 : Nat) : Int) := by
      intro k
      simp only [api_Ineq_104.l0]
      rw [if_pos (by omega), if_pos (by omega), if_pos (by omega), rdI_at l i hi, w64 (by omega) (by omega)]; rfl
    by_cases e : okI l[i] = true
    · rw [show (⟨⟨l[i].f0.f0, l[i].f0.f1⟩, l[i].f1⟩ : S70) = l[i] from rfl, e] at hq
      refine ⟨v, Ev.succ (Ev.of (Ev.bind hq ?_) hs), ?_⟩
      · exact Ev.of ev fun k => by simp
      · rw [hv, List.all_cons, e, Bool.true_and]
    · have e' : okI l[i] = false := by simpa using e
      rw [show (⟨⟨l[i].f0.f0, l[i].f0.f1⟩, l[i].f1⟩ : S70) = l[i] from rfl, e'] at hq
      refine ⟨i, Ev.succ (Ev.of (Ev.bind hq ?_) hs), ?_⟩
      · exact Ev.now fun k => by simp
      · rw [List.all_cons, e']; simp
theorem wrong_ev (l : List S70) (v : Int) (hl : l.length ≤ 1000000) (hm : ∀ q ∈ l, q.f0.f1.length ≤ 9223372036854775807) : Ev (fun k => shadow_wrong.f k l v) (wrongB l v) := by
  unfold wrongB
  by_cases a : v < 0
  · exact Ev.pos a (Ev.now fun _ => by rw [decide_eq_true a]; rfl)
  by_cases b : v ≥ 64
  · exact Ev.neg a (Ev.pos b (Ev.now fun _ => by rw [decide_eq_true b]; simp))
  refine Ev.neg a (Ev.neg b ?_)
  obtain ⟨u, ev, hu⟩ := idx30_l0 l hl hm _ 0 rfl (by omega)
  rw [List.drop_zero] at hu
  rw [decide_eq_false a, decide_eq_false b, Bool.false_or, Bool.false_or]
  exact Ev.bind (v := !(l.all okI)) (Ev.bind ev (Ev.now fun _ => by rw [hu])) (Ev.now fun _ => rfl)
theorem wrongB_not {l : List S70} {v : Int} (h : wrongB l v = false) : 0 ≤ v ∧ v < 64 ∧ ∀ q ∈ l, q.f1 = false ∧ rightL (-1) q.f0.f1 = true := by
  unfold wrongB at h
  simp only [Bool.or_eq_false_iff, decide_eq_false_iff_not, Bool.not_eq_false', List.all_eq_true] at h
  refine ⟨by omega, by omega, fun q hq => ?_⟩
  have := h.2 q hq
  unfold okI at this
  simpa using this
theorem right30_l0 (l : List S70) (v : Int) (hl : l.length ≤ 1000000) (hm : ∀ q ∈ l, q.f0.f1.length ≤ 9223372036854775807) : ∀ (d i : Nat), l.length - i = d → i ≤ l.length →
    Ev (fun k => sequiturref30_Right.l0 k l v i) ((l.drop i).all okI && decide (v ≥ 0) && decide (v < 64)) := by
  intro d
  induction d with
  | zero =>
    intro i h1 h2
    rw [List.drop_eq_nil_of_le (by omega)]
    refine Ev.succ ?_
    simp only [sequiturref30_Right.l0]
    refine Ev.neg (by omega) ?_
    by_cases a : v ≥ 0
    · exact Ev.pos a (Ev.now fun _ => by rw [decide_eq_true a]; rfl)
    · exact Ev.neg a (Ev.now fun _ => by rw [decide_eq_false a]; rfl)
  | succ d ih =>
    intro i h1 h2
    have hi : i < l.length := by omega
    rw [List.drop_eq_getElem_cons hi, List.all_cons]
    refine Ev.succ ?_
    simp only [sequiturref30_Right.l0]
    rw [rdI_at l i hi, show wrap64 ((i:Int) + 1) = ((i+1 : Nat) : Int) by rw [w64 (by omega) (by omega)]; omega]
    refine Ev.pos (by omega) (Ev.pos (by omega) ?_)
    have hI := ih (i+1) (by omega) (by omega)
    unfold okI
    by_cases a : l[i].f1 = true
    · exact Ev.pos a (Ev.now fun _ => by rw [a]; rfl)
    · refine Ev.neg a (Ev.bind (right27_ev l[i].f0.f0 l[i].f0.f1 (hm _ (List.getElem_mem hi))) ?_)
      rw [show l[i].f1 = false by simpa using a]
      by_cases e : rightL (-1) l[i].f0.f1 = true
      · refine (Ev.pos (by rw [if_pos e]) hI).val ?_
        rw [e]; rfl
      · refine Ev.neg (by rw [if_neg e]; decide) (Ev.now fun _ => ?_)
        rw [show rightL (-1) l[i].f0.f1 = false by simpa using e]; rfl
theorem right30_ev (l : List S70) (v : Int) (hl : l.length ≤ 1000000) (hm : ∀ q ∈ l, q.f0.f1.length ≤ 9223372036854775807) : Ev (fun k => sequiturref30_Right.f k l v) (!wrongB l v) := by
  refine (right30_l0 l v hl hm _ 0 rfl (by omega)).val ?_
  unfold wrongB
  rw [List.drop_zero]
  by_cases a : v < 0
  · rw [decide_eq_true a, decide_eq_false (show ¬ v ≥ 0 by omega)]; simp
  · by_cases b : v ≥ 64
    · rw [decide_eq_false (show ¬ v < 64 by omega), decide_eq_true b]; simp
    · rw [decide_eq_false a, decide_eq_false b, decide_eq_true (show v ≥ 0 by omega), decide_eq_true (show v < 64 by omega)]; simp
theorem long30_l0 (l : List S70) (hl : l.length ≤ 1000000) : ∀ (d i : Nat), l.length - i = d → i ≤ l.length → Ev (fun k => sequiturref30_Long.l0 k l i) (!((l.drop i).all fun q => decide (q.f0.f1.length ≤ 70))) := by
  intro d
  induction d with
  | zero =>
    intro i h1 h2
    refine Ev.succ (Ev.now fun k => ?_)
    simp only [sequiturref30_Long.l0]
    rw [if_neg (by omega), List.drop_eq_nil_of_le (by omega)]; rfl
  | succ d ih =>
    intro i h1 h2
    have hi : i < l.length := by omega
    rw [List.drop_eq_getElem_cons hi, List.all_cons]
    refine Ev.succ ?_
    simp only [sequiturref30_Long.l0]
    rw [rdI_at l i hi]
    refine Ev.pos (by omega) (Ev.pos (by omega) ?_)
    by_cases e : l[i].f0.f1.length ≤ 70
    · refine Ev.neg (by omega) (((ih (i+1) (by omega) (by omega)).of fun k => ?_).val ?_)
      · rw [w64 (by omega) (by omega)]; rfl
      · rw [decide_eq_true e, Bool.true_and]
    · refine Ev.pos (by omega) (Ev.now fun _ => ?_)
      rw [decide_eq_false e]; rfl
def longI (l : List S70) (n : Int) : Bool := decide ((l.length : Int) > n) || !(l.all fun q => decide (q.f0.f1.length ≤ 70))
theorem long30_ev (l : List S70) (n : Int) (hn : n ≤ 1000000) : Ev (fun k => sequiturref30_Long.f k l n) (longI l n) := by
  unfold longI
  by_cases e : (l.length : Int) > n
  · refine Ev.pos e (Ev.now fun _ => ?_)
    rw [decide_eq_true e]; rfl
  · refine Ev.neg e ((long30_l0 l (by omega) _ 0 rfl (by omega)).val ?_)
    rw [decide_eq_false e, List.drop_zero, Bool.false_or]
theorem longI_not {l : List S70} {n : Int} (h : longI l n = false) : (l.length : Int) ≤ n ∧ ∀ q ∈ l, q.f0.f1.length ≤ 70 := by
  unfold longI at h
  rw [Bool.or_eq_false_iff] at h
  refine ⟨by simpa using h.1, fun q hq => ?_⟩
  have h2 : (l.all fun q => decide (q.f0.f1.length ≤ 70)) = true := by simpa using h.2
  simpa using List.all_eq_true.1 h2 q hq
theorem alive30_ev : Ev (fun k => sequiturlaw30_alive.f k) true := Ev.mono 200 sequiturlaw30_alive.mono (by decide +kernel)
theorem told_eq (n : Int) (b : Bool) : num_told.f n b = some (if b = true then (n, true) else (0, false)) := by
  unfold num_told.f; split <;> rfl
theorem Sub_eq {a b : Int} (h1 : -9223372036854775808 ≤ a) (h2 : a ≤ 9223372036854775807) (h3 : -9223372036854775808 ≤ b) (h4 : b ≤ 9223372036854775807) :
    num_Sub.f a b = some (fitI (a - b)) := by
  unfold num_Sub.f
  rw [told_eq]
  simp only [Option.bind_some]
  congr 1
  unfold fitI
  by_cases h : -9223372036854775808 ≤ a - b ∧ a - b ≤ 9223372036854775807
  · rw [w64 h.1 h.2, if_pos h, show decide (a - b < a) = decide (b > 0) by rw [decide_eq_decide]; omega]; simp
  · rw [if_neg h]
    have : (decide (wrap64 (a - b) < a) == decide (b > 0)) = false := by
      rw [beq_eq_false_iff_ne, Ne, decide_eq_decide]; unfold wrap64; omega
    rw [this]; rfl
theorem tmod_facts (a b : Int) (hb : b ≠ 0) : (Int.tmod a b).natAbs < b.natAbs ∧ (0 ≤ a → 0 ≤ Int.tmod a b) ∧ (a ≤ 0 → Int.tmod a b ≤ 0) ∧ b * Int.tdiv a b + Int.tmod a b = a := by
  refine ⟨?_, fun h => Int.tmod_nonneg b h, fun h => ?_, Int.mul_tdiv_add_tmod a b⟩
  · rw [Int.natAbs_tmod]; exact Nat.mod_lt _ (by omega)
  · have := Int.tmod_nonneg b (show 0 ≤ -a by omega)
    rw [Int.neg_tmod] at this; omega
theorem tdiv_two (a b : Int) (h : 2 ≤ b.natAbs) : (Int.tdiv a b).natAbs ≤ a.natAbs / 2 := by
  rw [Int.natAbs_tdiv]; exact Nat.div_le_div_left h (by omega)
theorem refNeg_eq {a : Int} (h1 : -9223372036854775808 ≤ a) (h2 : a ≤ 9223372036854775807) : sequiturref01_Neg.f a = some (fitI (-a)) := by
  unfold sequiturref01_Neg.f
  rw [Of_eq h1 h2]
  simp only [Option.bind_some]
  rw [Minus_eq]
  simp only [Option.bind_some]
  rw [Fits_eq _ (by omega) (by omega)]; rfl
theorem Neg_eq {a : Int} (h1 : -9223372036854775808 ≤ a) (h2 : a ≤ 9223372036854775807) : num_Neg.f a = some (fitI (-a)) := by
  unfold num_Neg.f
  rw [Sub_eq (by omega) (by omega) h1 h2]
  simp only [Option.bind_some]
  rw [show (0:Int) - a = -a by omega]
theorem refCeil_eq {K d : Int} (hK : R64 K) (hd : 1 ≤ d) (hd2 : d ≤ 9223372036854775807) : sequiturref01_Ceil.f K d = some (ceilD K d, true) := by
  have hT := (tdiv_R64 hK hd).1
  have hK1 := hK.1
  have hK2 := hK.2
  have hT1 := hT.1
  have hT2 := hT.2
  have he : K = d * Int.tdiv K d + Int.tmod K d := by rw [Int.add_comm]; exact (Int.tmod_add_mul_tdiv K d).symm
  have hW : wrap64 (Int.tdiv K d) = Int.tdiv K d := w64 hT.1 hT.2
  have hD : sequiturref01_Div.f K d = some (if Int.tmod K d = 0 then Int.tdiv K d else if K < 0 then wrap64 (Int.tdiv K d - 1) else Int.tdiv K d, true) := by
    unfold sequiturref01_Div.f
    rw [if_neg (by omega), if_neg (by omega), hW, decide_eq_false (show ¬ d < 0 by omega)]
    by_cases e : Int.tmod K d = 0
    · rw [if_pos e, if_pos e]
    · rw [if_neg e, if_neg e]
      by_cases n : K < 0
      · rw [decide_eq_true n, if_pos (by decide), if_pos n]
      · rw [decide_eq_false n, if_neg (by decide), if_neg n]
  have hM : sequiturref01_Mod.f K d = some (if Int.tmod K d = 0 then Int.tmod K d else if Int.tmod K d < 0 then wrap64 (Int.tmod K d + d) else Int.tmod K d, true) := by
    unfold sequiturref01_Mod.f
    rw [if_neg (by omega), if_neg (by omega), decide_eq_false (show ¬ d < 0 by omega)]
    by_cases e : Int.tmod K d = 0
    · rw [if_pos e, if_pos e]
    · rw [if_neg e, if_neg e]
      by_cases n : Int.tmod K d < 0
      · rw [decide_eq_true n, if_pos (by decide), if_pos n]
      · rw [decide_eq_false n, if_neg (by decide), if_neg n]
  unfold sequiturref01_Ceil.f
  rw [hD, hM]
  simp only [Option.bind_some, if_true]
  by_cases e : Int.tmod K d = 0
  · simp only [if_pos e]
    congr 2
    refine ceilD_uniq hd ?_ ?_ <;> (try rw [Int.mul_sub]) <;> omega
  · simp only [if_neg e]
    by_cases n : K < 0
    · have hm : Int.tmod K d ≤ 0 := by
        have := Int.tmod_nonneg (a := -K) d (by omega)
        rw [Int.neg_tmod] at this; omega
      have hm2 : -d < Int.tmod K d := by
        have := Int.tmod_lt_of_pos (-K) (show 0 < d by omega)
        rw [Int.neg_tmod] at this; omega
      have hd1 : d ≠ 1 := by intro h; subst h; simp at e
      have hq : -(-K / 2) ≤ Int.tdiv K d := by
        rw [((tdiv_R64 hK hd).2 (by omega)).2 n]
        have : 2 * (-K / d) ≤ d * (-K / d) := Int.mul_le_mul_of_nonneg_right (by omega) (Int.ediv_nonneg (by omega) (by omega))
        have := Int.mul_ediv_self_le (x := -K) (k := d) (by omega)
        omega
      rw [if_pos (show Int.tmod K d < 0 by omega), if_pos n, w64 (n := Int.tmod K d + d) (by omega) (by omega), if_neg (by omega), w64 (n := Int.tdiv K d - 1) (by omega) (by omega), w64 (by omega) (by omega)]
      congr 2
      refine ceilD_uniq hd ?_ ?_ <;> (try rw [Int.mul_sub]) <;> (try rw [Int.mul_add]) <;> (try rw [Int.mul_sub]) <;> omega
    · have hm : 0 ≤ Int.tmod K d := Int.tmod_nonneg d (by omega)
      have hm2 : Int.tmod K d < d := Int.tmod_lt_of_pos K (by omega)
      have hd1 : d ≠ 1 := by intro h; subst h; simp at e
      have hq : Int.tdiv K d ≤ K / 2 := by
        rw [((tdiv_R64 hK hd).2 (by omega)).1 (by omega)]
        have : 2 * (K / d) ≤ d * (K / d) := Int.mul_le_mul_of_nonneg_right (by omega) (Int.ediv_nonneg (by omega) (by omega))
        have := Int.mul_ediv_self_le (x := K) (k := d) (by omega)
        omega
      rw [if_neg (show ¬ Int.tmod K d < 0 by omega), if_neg e, if_neg n, w64 (by omega) (by omega)]
      congr 2
      refine ceilD_uniq hd ?_ ?_ <;> (try rw [Int.mul_sub]) <;> (try rw [Int.mul_add]) <;> omega
theorem less27_l0 (K : Int) (l : List S68) (v : Int) (hlen : l.length ≤ 1000000) : ∀ (n i : Nat) (acc : List S68), l.length - i = n → i ≤ l.length → acc = lessL (l.take i) v →
    Ev (fun k => sequiturref27_Less.l0 k v i K l K acc) (K, lessL l v) := by
  intro n
  induction n with
  | zero =>
    intro i acc h1 h2 hacc
    rw [List.take_of_length_le (by omega)] at hacc
    subst hacc
    refine Ev.succ (Ev.now fun k => ?_)
    simp only [sequiturref27_Less.l0]
    rw [if_neg (by omega)]
  | succ n ih =>
    intro i acc h1 h2 hacc
    have hi : i < l.length := by omega
    have hal : acc.length ≤ 1000000 := by
      rw [hacc]
      have := List.length_filter_le (fun m : S68 => decide (m.f0 ≠ v)) (l.take i)
      unfold lessL
      rw [List.length_take] at this
      omega
    by_cases e : l[i].f0 = v
    · refine Ev.succ (Ev.of (ih (i+1) acc (by omega) (by omega) ?_) fun k => ?_)
      · rw [hacc, List.take_succ_eq_append_getElem hi]
        unfold lessL
        rw [List.filter_append, List.filter_cons, if_neg (by simp [e])]; simp
      · simp only [sequiturref27_Less.l0]
        rw [if_pos (by omega), if_pos (by omega), rdM_at l i hi, if_pos e, w64 (by omega) (by omega)]; rfl
    · refine Ev.succ (Ev.of (ih (i+1) (acc ++ [l[i]]) (by omega) (by omega) ?_) fun k => ?_)
      · rw [hacc, List.take_succ_eq_append_getElem hi]
        unfold lessL
        rw [List.filter_append, List.filter_cons, if_pos (by simp [e])]; simp
      · simp only [sequiturref27_Less.l0]
        rw [if_pos (by omega), if_pos (by omega), rdM_at l i hi, if_neg e, if_pos (by omega), w64 (by omega) (by omega)]; rfl
theorem less27_ev (K : Int) (l : List S68) (v : Int) (hlen : l.length ≤ 1000000) : Ev (fun k => sequiturref27_Less.f k K l v) (K, lessL l v) := by
  have := less27_l0 K l v hlen _ 0 [] rfl (by omega) rfl
  exact this
theorem eval27_l0 (x : List Int) (hx : I64 x) (K : Int) (l : List S68) (hl : M64 l) (hr : rightL (-1) l = true) (hlen : l.length ≤ 1000000) (V : Int) : ∀ (n i : Nat) (H L : Int), l.length - i = n → i ≤ l.length → tv H L + valL (l.drop i) x = V →
    -((i + 1 : Nat) * 9223372036854775808 : Int) ≤ H → H ≤ (i + 1 : Nat) * 9223372036854775808 → 0 ≤ L → L ≤ (i + 1 : Nat) * 18446744073709551616 →
    Ev (fun k => sequiturref27_Eval.l0 k x i K l (hiW H) (loW H) (hiW L) (loW L)) (if (fitR V).2 = true then ((fitR V).1, 0) else (0, 5)) := by
  intro n
  induction n with
  | zero =>
    intro i H L h1 h2 hs b1 b2 b3 b4
    rw [List.drop_eq_nil_of_le (by omega), show valL [] x = 0 from rfl, Int.add_zero] at hs
    have hi6 : ((i + 1 : Nat) : Int) ≤ 1000001 := by omega
    have q1 : -1000000000000000000000000000 ≤ H := by
      have : ((i + 1 : Nat) : Int) * 9223372036854775808 ≤ 1000001 * 9223372036854775808 := Int.mul_le_mul_of_nonneg_right hi6 (by decide)
      exact Int.le_trans (Int.le_trans (by decide) (Int.neg_le_neg this)) b1
    have q2 : H ≤ 1000000000000000000000000000 := by
      have : ((i + 1 : Nat) : Int) * 9223372036854775808 ≤ 1000001 * 9223372036854775808 := Int.mul_le_mul_of_nonneg_right hi6 (by decide)
      exact Int.le_trans b2 (Int.le_trans this (by decide))
    have q4 : L ≤ 1000000000000000000000000000 := by
      have : ((i + 1 : Nat) : Int) * 18446744073709551616 ≤ 1000001 * 18446744073709551616 := Int.mul_le_mul_of_nonneg_right hi6 (by decide)
      exact Int.le_trans b4 (Int.le_trans this (by decide))
    have hf : sequiturref27_Fits.f (hiW H) (loW H) (hiW L) (loW L) = some (fitR (tv H L)) := TFits27_eq q1 q2 b3 q4
    have n1 : ¬ (i : Int) < (l.length : Int) := by clear b1 b2 b3 b4 q1 q2 q4 hf hs; omega
    clear b1 b2 b3 b4 q1 q2 q4
    rw [hs] at hf
    refine Ev.succ (Ev.now fun k => ?_)
    simp only [sequiturref27_Eval.l0]
    rw [if_neg n1, hf]
    simp only [Option.bind_some]
    by_cases c : (fitR V).2 = true
    · rw [if_pos c, if_pos c]
    · rw [if_neg c, if_neg c]
  | succ n ih =>
    intro i H L h1 h2 hs b1 b2 b3 b4
    have hi : i < l.length := by clear b1 b2 b3 b4 hs; omega
    have n1 : (i : Int) < (l.length : Int) := by clear b1 b2 b3 b4 hs; omega
    have n2 : (0 : Int) ≤ (i : Int) := Int.natCast_nonneg i
    have hw : wrap64 ((i:Int) + 1) = ((i+1 : Nat) : Int) := by clear b1 b2 b3 b4 hs; rw [w64 (by omega) (by omega)]; omega
    have hm := rightL_mem l (-1) hr _ (List.getElem_mem hi)
    have h00 : 0 ≤ l[i].f0 := by clear b1 b2 b3 b4 hs; omega
    rw [List.drop_eq_getElem_cons hi, valL_cons _ _ x h00] at hs
    have hi2 : ((i + 1 + 1 : Nat) : Int) = ((i + 1 : Nat) : Int) + 1 := by simp
    have nn : l.length - (i + 1) = n := by clear b1 b2 b3 b4 hs; omega
    have nl : i + 1 ≤ l.length := hi
    by_cases c : l[i].f0 < (x.length : Int)
    · have hxv : xv x l[i].f0.toNat = rd x l[i].f0 := by
        unfold xv
        rw [show ((l[i].f0.toNat : Nat) : Int) = l[i].f0 by clear b1 b2 b3 b4 hs; omega, if_pos c]
      rw [hxv] at hs
      have hp := mul_R64 (hl _ (List.getElem_mem hi)).2 (rd_R64 hx l[i].f0)
      have hM := More27_ev H L (hl _ (List.getElem_mem hi)).2 (rd_R64 hx l[i].f0)
      have hI := ih (i+1) (H + l[i].f1 * rd x l[i].f0 / 18446744073709551616) (L + l[i].f1 * rd x l[i].f0 % 18446744073709551616) nn nl (st_tv hs) (by rw [hi2]; exact st_lo b1 hp.1) (by rw [hi2]; exact st_hi b2 hp.2) (st_nn b3) (by rw [hi2]; exact st_up b4)
      clear b1 b2 b3 b4 hs hp
      refine Ev.succ (Ev.of (Ev.bind (g := fun k bt => sequiturref27_Eval.l0 k x ((i+1 : Nat) : Int) K l bt.1 bt.2.1 bt.2.2.1 bt.2.2.2) hM hI) fun k => ?_)
      simp only [sequiturref27_Eval.l0]
      rw [if_pos n1, if_pos n2, rdM_at l i hi, if_pos c, if_pos h00, hw]
    · have hxv : xv x l[i].f0.toNat = 0 := by
        unfold xv
        rw [show ((l[i].f0.toNat : Nat) : Int) = l[i].f0 by clear b1 b2 b3 b4 hs; omega, if_neg c]
      rw [hxv, Int.mul_zero, Int.zero_add] at hs
      have hI := ih (i+1) H L nn nl hs (by rw [hi2]; exact (by clear hs; omega)) (by rw [hi2]; exact (by clear hs; omega)) b3 (by rw [hi2]; exact (by clear hs; omega))
      clear b1 b2 b3 b4 hs
      refine Ev.succ (Ev.of hI fun k => ?_)
      simp only [sequiturref27_Eval.l0]
      rw [if_pos n1, if_pos n2, rdM_at l i hi, if_neg c, hw]
theorem refEval27_ev (K : Int) (l : List S68) (x : List Int) (hK : R64 K) (hl : M64 l) (hx : I64 x) (hlen : l.length ≤ 1000000) :
    Ev (fun k => sequiturref27_Eval.f k K l x) (if rightL (-1) l = true then (if (fit64 (evalSum K l x)).2 = true then ((fit64 (evalSum K l x)).1, 0) else (0, 5)) else (0, 1)) := by
  have hr := right27_ev K l (by omega)
  by_cases e : rightL (-1) l = true
  · rw [if_pos e] at hr ⊢
    have hM := More27_ev 0 0 hK (show R64 1 from ⟨by omega, by omega⟩)
    rw [hiW0, loW0] at hM
    have hK1 := hK.1
    have hK2 := hK.2
    have hI := eval27_l0 x hx K l hl e hlen (evalSum K l x) _ 0 (0 + K * 1 / 18446744073709551616) (0 + K * 1 % 18446744073709551616) rfl (by omega) (by
      rw [List.drop_zero, evalSum_val]
      unfold tv
      omega) (by omega) (by omega) (by omega) (by omega)
    have hfit : fitR (evalSum K l x) = fit64 (evalSum K l x) := rfl
    rw [hfit] at hI
    exact Ev.bind hr (Ev.pos rfl (Ev.bind hM hI))
  · rw [if_neg e] at hr ⊢
    exact Ev.bind hr (Ev.neg (by decide) (Ev.now fun _ => rfl))
theorem rest_l0 (K : Int) (l : List S68) (v : Int) (hlen : l.length ≤ 1000000) : ∀ (n i : Nat) (acc : List S68), l.length - i = n → i ≤ l.length → acc = lessL (l.take i) v →
    Ev (fun k => shadow_rest.l0 k v l (l.length : Int) i K acc) (K, lessL l v) := by
  intro n
  induction n with
  | zero =>
    intro i acc h1 h2 hacc
    rw [List.take_of_length_le (by omega)] at hacc
    subst hacc
    refine Ev.succ (Ev.now fun k => ?_)
    simp only [shadow_rest.l0]
    rw [if_neg (by omega)]
  | succ n ih =>
    intro i acc h1 h2 hacc
    have hi : i < l.length := by omega
    have hal : acc.length ≤ 1000000 := by
      rw [hacc]
      have := List.length_filter_le (fun m : S68 => decide (m.f0 ≠ v)) (l.take i)
      unfold lessL
      rw [List.length_take] at this
      omega
    by_cases e : l[i].f0 = v
    · refine Ev.succ (Ev.of (ih (i+1) acc (by omega) (by omega) ?_) fun k => ?_)
      · rw [hacc, List.take_succ_eq_append_getElem hi]
        unfold lessL
        rw [List.filter_append, List.filter_cons, if_neg (by simp [e])]; simp
      · simp only [shadow_rest.l0]
        rw [if_pos (by omega), if_pos (by omega), if_pos (by omega), rdM_at l i hi, if_pos e, w64 (by omega) (by omega)]; rfl
    · refine Ev.succ (Ev.of (ih (i+1) (acc ++ [l[i]]) (by omega) (by omega) ?_) fun k => ?_)
      · rw [hacc, List.take_succ_eq_append_getElem hi]
        unfold lessL
        rw [List.filter_append, List.filter_cons, if_pos (by simp [e])]; simp
      · simp only [shadow_rest.l0]
        rw [if_pos (by omega), if_pos (by omega), if_pos (by omega), rdM_at l i hi, if_neg e, if_pos (by omega), w64 (by omega) (by omega)]; rfl
theorem rest_ev (K : Int) (l : List S68) (v : Int) (hlen : l.length ≤ 1000000) : Ev (fun k => shadow_rest.f k K l v) (K, lessL l v) := by
  have := rest_l0 K l v hlen _ 0 [] rfl (by omega) rfl
  exact this
theorem lessL_len (l : List S68) (v : Int) : (lessL l v).length ≤ l.length := List.length_filter_le _ _
/-- What a form comes to without a variable. -/
def rV (v : Int) (x : List Int) (q : S70) : Int := q.f0.f0 + valL (lessL q.f0.f1 v) x
def evR (V : Int) : Int × Int := if R64 V then (V, 0) else (0, 5)
theorem evR_of (K : Int) (l : List S68) (x : List Int) : (if (fit64 (evalSum K l x)).2 = true then ((fit64 (evalSum K l x)).1, (0:Int)) else (0, 5)) = evR (K + valL l x) := by
  rw [evalSum_val]
  unfold evR
  by_cases h : R64 (K + valL l x)
  · rw [fit64_R h, if_pos rfl, if_pos h]
  · rw [fit64_N h, if_neg (by simp), if_neg h]
theorem evalRest_ev (q : S70) (v : Int) (x : List Int) (hq : R64 q.f0.f0 ∧ M64 q.f0.f1) (hr : rightL (-1) q.f0.f1 = true) (hx : I64 x) (hlen : q.f0.f1.length ≤ 1000000) : Ev (fun k => lin_Eval.f k q.f0.f0 (lessL q.f0.f1 v) x) (evR (rV v x q)) := by
  have hl := lessL_len q.f0.f1 v
  refine (Eval_ev q.f0.f0 (lessL q.f0.f1 v) x hq.1 (lessL_M64 v hq.2) hx (by omega)).val ?_
  rw [if_pos (lessL_right v _ (-1) hr), evR_of]; rfl
theorem refEvalRest_ev (q : S70) (v : Int) (x : List Int) (hq : R64 q.f0.f0 ∧ M64 q.f0.f1) (hr : rightL (-1) q.f0.f1 = true) (hx : I64 x) (hlen : q.f0.f1.length ≤ 1000000) : Ev (fun k => sequiturref27_Eval.f k q.f0.f0 (lessL q.f0.f1 v) x) (evR (rV v x q)) := by
  have hl := lessL_len q.f0.f1 v
  refine (refEval27_ev q.f0.f0 (lessL q.f0.f1 v) x hq.1 (lessL_M64 v hq.2) hx (by omega)).val ?_
  rw [if_pos (lessL_right v _ (-1) hr), evR_of]; rfl
theorem ceilD_one (r : Int) : ceilD r 1 = r := (ceilD_uniq (K := r) (d := 1) (c := r) (by omega) (by omega) (by omega)).symm
theorem least_eq {r by_ : Int} (hr : R64 r) (hb : R64 by_) (hn : by_ < 0) : shadow_least.f r by_ = some (ceilD r (-by_)) := by
  have h1 := hr.1
  have h2 := hr.2
  have h3 := hb.1
  unfold shadow_least.f
  rw [Neg_eq hb.1 hb.2, fitI_R]
  simp only [Option.bind_some]
  by_cases e : by_ = -9223372036854775808
  · subst e
    have hf : fitR (- -9223372036854775808) = (0, false) := by unfold fitR; rw [if_neg (fun h => by have := h.2; omega)]
    rw [hf]
    simp only [Bool.false_eq_true, if_false]
    by_cases c1 : r > 0
    · rw [if_pos c1]
      exact congrArg some (ceilD_uniq (by omega) (by omega) (by omega))
    · rw [if_neg c1]
      by_cases c2 : r = -9223372036854775808
      · rw [if_pos c2]
        exact congrArg some (ceilD_uniq (by omega) (by omega) (by omega))
      · rw [if_neg c2]
        exact congrArg some (ceilD_uniq (by omega) (by omega) (by omega))
  · have hf : fitR (-by_) = (-by_, true) := by unfold fitR; rw [if_pos (show R64 (-by_) from ⟨by omega, by omega⟩)]
    rw [hf]
    simp only [if_true]
    rw [Ceil_eq hr (by omega) (by omega)]; rfl
theorem refDiv_low {r by_ : Int} (hr : R64 r) (hb : R64 by_) (hn : by_ < -1) : sequiturref01_Div.f r by_ = some (-(ceilD r (-by_)), true) := by
  have h1 := hr.1
  have h2 := hr.2
  have h3 := hb.1
  obtain ⟨m1, m2, m3, m4⟩ := tmod_facts r by_ (by omega)
  have ht := tdiv_two r by_ (by omega)
  unfold sequiturref01_Div.f
  rw [if_neg (by omega), if_neg (by omega)]
  have hw : wrap64 (Int.tdiv r by_) = Int.tdiv r by_ := w64 (by omega) (by omega)
  rw [hw]
  have key : ∀ q : Int, by_ * (q + 1) < r → r ≤ by_ * q → q = -(ceilD r (-by_)) := by
    intro q a b
    have e1 : -by_ * (-q - 1) = by_ * (q + 1) := by rw [Int.neg_mul, ← Int.mul_neg]; congr 1; omega
    have e2 : -by_ * (-q) = by_ * q := by rw [Int.neg_mul_neg]
    have := ceilD_uniq (K := r) (d := -by_) (c := -q) (by omega) (by rw [e1]; exact a) (by rw [e2]; exact b)
    omega
  generalize hT : Int.tdiv r by_ = T at *
  generalize hMm : Int.tmod r by_ = M at *
  have eT1 : by_ * (T + 1) = by_ * T + by_ := by rw [Int.mul_add, Int.mul_one]
  have eT2 : by_ * (T - 1) = by_ * T - by_ := by rw [Int.mul_sub, Int.mul_one]
  by_cases c1 : M = 0
  · rw [if_pos c1]
    rw [key T (by rw [eT1]; omega) (by omega)]
  · rw [if_neg c1]
    by_cases c2 : r < 0
    · rw [decide_eq_true c2, decide_eq_true (show by_ < 0 by omega), if_neg (by decide)]
      rw [key T (by rw [eT1]; omega) (by omega)]
    · rw [decide_eq_false c2, decide_eq_true (show by_ < 0 by omega), if_pos (by decide)]
      rw [w64 (by omega) (by omega), key (T - 1) (by rw [show T - 1 + 1 = T by omega]; omega) (by rw [eT2]; omega)]
theorem ceilD_R64 {r d : Int} (hr : R64 r) (hd : 1 ≤ d) : R64 (ceilD r d) := by
  obtain ⟨a, b⟩ := ceil_law (K := r) hd
  have h1 := hr.1
  have h2 := hr.2
  constructor
  · by_cases c : ceilD r d ≤ 0
    · have : d * ceilD r d ≤ 1 * ceilD r d := by
        have := Int.mul_le_mul_of_nonpos_right hd c
        exact this
      omega
    · omega
  · by_cases c : 1 ≤ ceilD r d
    · have : 1 * (ceilD r d - 1) ≤ d * (ceilD r d - 1) := Int.mul_le_mul_of_nonneg_right hd (by omega)
      omega
    · omega
theorem allow_low {r by_ : Int} (hr : R64 r) (hb : R64 by_) (hn : by_ < 0) : sequiturref30_allow.f r by_ = some (ceilD r (-by_), true) := by
  unfold sequiturref30_allow.f
  rw [if_neg (by omega)]
  by_cases e : by_ = -1
  · rw [if_pos e, e, show - (-1 : Int) = 1 from rfl, ceilD_one]
  · have hc := ceilD_R64 hr (show (1 : Int) ≤ -by_ by omega)
    have hc3 : R64 (- -(ceilD r (-by_))) := by rw [Int.neg_neg]; exact hc
    have hcn : R64 (-(ceilD r (-by_))) := by
      obtain ⟨a, b⟩ := ceil_law (K := r) (show (1 : Int) ≤ -by_ by omega)
      have := hc.1
      have := hc.2
      have := hr.1
      have h2 : 2 * ceilD r (-by_) ≥ -9223372036854775808 := by
        by_cases c : ceilD r (-by_) ≤ 0
        · have := Int.mul_le_mul_of_nonpos_right (show (2 : Int) ≤ -by_ by omega) c
          omega
        · omega
      exact ⟨by omega, by omega⟩
    rw [if_neg e, refDiv_low hr hb (by omega)]
    simp only [Option.bind_some]
    rw [refNeg_eq hcn.1 hcn.2, fitI_R]
    simp only [Option.bind_some, if_true]
    unfold fitR
    rw [if_pos hc3, Int.neg_neg]
theorem allow_up {r by_ : Int} (hr : R64 r) (hb : R64 by_) (hn : 0 < by_) : sequiturref30_allow.f r by_ = some (fitR (-(ceilD r by_))) := by
  have hc := ceilD_R64 hr (show (1 : Int) ≤ by_ by omega)
  unfold sequiturref30_allow.f
  rw [if_pos hn, refCeil_eq hr (by omega) hb.2]
  simp only [Option.bind_some]
  rw [refNeg_eq hc.1 hc.2, fitI_R]
  rfl
/-- What bounds allow, one by one. -/
def betD (v : Int) (x : List Int) : List S70 → Int → Int → Bool → Bool → Int × Int × Bool × Bool × Int
  | [], lo, up, has, is_ => (lo, up, has, is_, 0)
  | q :: t, lo, up, has, is_ =>
    if cf v q = 0 then betD v x t lo up has is_
    else if ¬ R64 (rV v x q) then (0, 0, false, false, 5)
    else if cf v q < 0 then (if has = true ∧ ¬ ceilD (rV v x q) (-cf v q) > lo then betD v x t lo up has is_ else betD v x t (ceilD (rV v x q) (-cf v q)) up true is_)
    else if ¬ R64 (-(ceilD (rV v x q) (cf v q))) then (0, 0, false, false, 5)
    else (if is_ = true ∧ ¬ -(ceilD (rV v x q) (cf v q)) < up then betD v x t lo up has is_ else betD v x t lo (-(ceilD (rV v x q) (cf v q))) has true)
def betweenD (l : List S70) (v : Int) (x : List Int) : Int × Int × Bool × Bool × Int := if wrongB l v = true then (0, 0, false, false, 1) else betD v x l 0 0 false false
section
variable (l : List S70) (v : Int) (x : List Int) (hl : l.length ≤ 1000) (hR : ∀ q ∈ l, R64 q.f0.f0 ∧ M64 q.f0.f1) (hm : ∀ q ∈ l, q.f0.f1.length ≤ 1000000) (hx : I64 x) (hr : ∀ q ∈ l, q.f1 = false ∧ rightL (-1) q.f0.f1 = true)
include hl hR hm hx hr
theorem between_l0 : ∀ (d i : Nat) (lo up : Int) (has is_ : Bool), l.length - i = d → i ≤ l.length → Ev (fun k => shadow_Between.l0 k v x lo up has is_ l (l.length : Int) i) (betD v x (l.drop i) lo up has is_) := by
  intro d
  induction d with
  | zero =>
    intro i lo up has is_ h1 h2
    rw [List.drop_eq_nil_of_le (by omega)]
    refine Ev.succ ?_
    simp only [shadow_Between.l0]
    exact Ev.neg (by omega) (Ev.now fun _ => rfl)
  | succ d ih =>
    intro i lo up has is_ h1 h2
    have hi : i < l.length := by omega
    have hq := hR _ (List.getElem_mem hi)
    have hlq := hm _ (List.getElem_mem hi)
    have hrq := (hr _ (List.getElem_mem hi)).2
    have hI := fun lo up has is_ => ih (i+1) lo up has is_ (by omega) (by omega)
    have hcR : R64 (cf v l[i]) := coefI_R64 _ v hq.2
    rw [List.drop_eq_getElem_cons hi]
    refine Ev.succ ?_
    simp only [shadow_Between.l0]
    rw [rdI_at l i hi, show wrap64 ((i:Int) + 1) = ((i+1 : Nat) : Int) by rw [w64 (by omega) (by omega)]; omega]
    refine Ev.pos (by omega) (Ev.pos (by omega) (Ev.pos (by omega) (Ev.bind (linBy_ev l[i].f0.f0 l[i].f0.f1 v (by omega)) ?_)))
    simp only [betD]
    have hcf : coefI l[i].f0.f1 v = cf v l[i] := rfl
    rw [hcf]
    by_cases c0 : cf v l[i] = 0
    · rw [if_pos c0]
      exact Ev.pos c0 (hI lo up has is_)
    rw [if_neg c0]
    refine Ev.neg c0 (Ev.bind (rest_ev l[i].f0.f0 l[i].f0.f1 v hlq) (Ev.bind (evalRest_ev l[i] v x hq hrq hx hlq) ?_))
    unfold evR
    by_cases cR : R64 (rV v x l[i])
    · rw [if_pos cR, if_neg (fun h => h cR)]
      refine Ev.pos rfl ?_
      by_cases cn : cf v l[i] < 0
      · rw [if_pos cn]
        refine Ev.pos cn ?_
        rw [least_eq cR hcR cn]
        refine Ev.bind (Ev.now fun _ => rfl) ?_
        cases has
        · rw [if_neg (by simp)]
          exact Ev.neg (by simp) (hI _ up true is_)
        · refine Ev.pos rfl ?_
          by_cases c2 : ceilD (rV v x l[i]) (-cf v l[i]) > lo
          · rw [if_neg (fun h => h.2 c2)]
            exact Ev.pos c2 (hI _ up true is_)
          · rw [if_pos ⟨rfl, c2⟩]
            exact Ev.neg c2 (hI lo up true is_)
      · rw [if_neg cn]
        refine Ev.neg cn ?_
        rw [Ceil_eq cR (by omega) hcR.2]
        refine Ev.bind (Ev.now fun _ => rfl) ?_
        have hc := ceilD_R64 cR (show (1 : Int) ≤ cf v l[i] by omega)
        simp only
        rw [Neg_eq hc.1 hc.2, fitI_R]
        refine Ev.bind (Ev.now fun _ => rfl) ?_
        unfold fitR
        by_cases cU : R64 (-(ceilD (rV v x l[i]) (cf v l[i])))
        · rw [if_pos cU, if_neg (fun h => h cU)]
          refine Ev.pos rfl ?_
          cases is_
          · rw [if_neg (by simp)]
            exact Ev.neg (by simp) (hI lo _ has true)
          · refine Ev.pos rfl ?_
            by_cases c2 : -(ceilD (rV v x l[i]) (cf v l[i])) < up
            · rw [if_neg (fun h => h.2 c2)]
              exact Ev.pos c2 (hI lo _ has true)
            · rw [if_pos ⟨rfl, c2⟩]
              exact Ev.neg c2 (hI lo up has true)
        · rw [if_neg cU, if_pos cU]
          exact Ev.neg (by simp) (Ev.now fun _ => rfl)
    · rw [if_neg cR, if_pos cR]
      exact Ev.neg (by simp) (Ev.now fun _ => rfl)
end
theorem between_ev (l : List S70) (v : Int) (x : List Int) (hl : l.length ≤ 1000) (hR : ∀ q ∈ l, R64 q.f0.f0 ∧ M64 q.f0.f1) (hm : ∀ q ∈ l, q.f0.f1.length ≤ 1000000) (hx : I64 x) : Ev (fun k => shadow_Between.f k l v x) (betweenD l v x) := by
  refine Ev.bind (wrong_ev l v (by omega) (fun q hq => Nat.le_trans (hm q hq) (by decide))) ?_
  unfold betweenD
  by_cases w : wrongB l v = true
  · rw [if_pos w]
    exact Ev.pos w (Ev.now fun _ => rfl)
  · rw [if_neg w]
    have := between_l0 l v x hl hR hm hx (wrongB_not (show wrongB l v = false by simpa using w)).2.2 _ 0 0 0 false false rfl (by omega)
    rw [List.drop_zero] at this
    exact Ev.neg w this
open Go.ChangeShapes Go.WideShapes
theorem list_of {α : Type} (n : Nat) (p : Nat → α → Prop) (h : ∀ i, i < n → ∃ x, p i x) : ∃ l : List α, l.length = n ∧ ∀ i x, l[i]? = some x → p i x := by
  induction n with
  | zero => exact ⟨[], rfl, by simp⟩
  | succ n ih =>
    obtain ⟨l, hl, hp⟩ := ih (fun i hi => h i (by omega))
    obtain ⟨x, hx⟩ := h n (by omega)
    refine ⟨l ++ [x], by simp [hl], fun i y hy => ?_⟩
    rcases Nat.lt_or_ge i n with q | q
    · rw [List.getElem?_append_left (by omega)] at hy; exact hp i y hy
    · rw [List.getElem?_append_right (by omega)] at hy
      have : i - l.length = 0 := by
        rcases Nat.eq_zero_or_pos (i - l.length) with e | e
        · exact e
        · rw [List.getElem?_eq_none (by simp; omega)] at hy; cases hy
      rw [this] at hy
      obtain rfl : x = y := by simpa using hy
      rw [show i = n by omega]; exact hx
/-- An argument that is a slice, opened: a list of what its elements are. -/
theorem open_row {H : Type} {enc : TypeId × Value → H} {W : World} {held : Bool} {α : Type} (d : Kd α) (Q : α → Prop) {t e : TypeId} {spare : Nat → Bool} {fuel : Nat} {A : Option Addr} {n c : Nat} {x : DataW H × List MemPlace}
    (ht : Try.prog.underlying t = some (.slice e)) (hsz : Try.prog.cellsOf e = d.sz)
    (ho : ∀ m cs y, DataW.trod enc Try.prog W 0 spare held m e cs = some y → ∃ x, d.K W x cs ∧ Q x)
    (h : DataW.trod enc Try.prog W 0 spare held fuel t [.slice A n c] = some x) :
    ∃ l : List α, l.length = n ∧ n ≤ c ∧ c ≤ maxLen ∧ d.C W A n l ∧ ∀ x ∈ l, Q x := by
  rcases Go.Deep.open_slice ht h with ⟨hcs, _⟩ | ⟨a, len, cap, m, n', D, Pl, hcs, _, hl, hm, hmm, _, hi⟩
  · simp at hcs
    obtain ⟨rfl, rfl, rfl⟩ := hcs
    exact ⟨[], rfl, Nat.le_refl _, Nat.zero_le _, Kd.C_nil d W, by simp⟩
  · simp at hcs
    obtain ⟨rfl, rfl, rfl⟩ := hcs
    have hmn : n ≤ m := by rw [hmm]; split <;> omega
    obtain ⟨l, h1, h2⟩ := list_of n (fun i x => (∃ cs, cs.length = d.sz ∧ d.K W x cs ∧ ∀ j u, cs[j]? = some u → W.cell? (a.add (i * d.sz + j)) = some u) ∧ Q x) (fun i hin => by
      obtain ⟨cs, hc, hx⟩ := hi i (by omega)
      obtain ⟨x, hK, hQ⟩ := ho _ _ _ hx
      obtain ⟨_, hlen, hat⟩ := World.cells?_some hc
      refine ⟨x, ⟨cs, hlen.trans hsz, hK, fun j u hj => ?_⟩, hQ⟩
      have hjl : j < cs.length := by
        rcases Nat.lt_or_ge j cs.length with q | q
        · exact q
        · rw [List.getElem?_eq_none q] at hj; cases hj
      rw [← hj, ← hat j (by omega), hsz, Go.Deep.add_add])
    refine ⟨l, h1, hl, hm, ⟨h1, ?_, fun _ => ⟨a, rfl, fun j p hj => (h2 j p hj).1⟩⟩, fun x hx => ?_⟩
    · have : maxLen = 9223372036854775807 := rfl
      omega
    · obtain ⟨i, hi', he⟩ := List.getElem_of_mem hx
      exact (h2 i x (by rw [List.getElem?_eq_getElem hi', he])).2
theorem open_int1 {H : Type} {enc : TypeId × Value → H} {W : World} {held : Bool} {spare : Nat → Bool} {m : Nat} {e : TypeId} (hu : Try.prog.underlying e = some (.int .i64)) (cs : List Value) (y : DataW H × List MemPlace) (h : DataW.trod enc Try.prog W 0 spare held m e cs = some y) :
    ∃ x : Int, (Kd.int .i64).K W x cs ∧ (-9223372036854775808 ≤ x ∧ x ≤ 9223372036854775807) := by
  obtain ⟨n, rfl, _, hw⟩ := DataW.trod_int hu h
  exact ⟨n, rfl, wf64 hw⟩
theorem open_ints1 {H : Type} {enc : TypeId × Value → H} {W : World} {held : Bool} {spare : Nat → Bool} {fuel : Nat} {t e : TypeId} {A : Option Addr} {n c : Nat} {x : DataW H × List MemPlace} (hu : Try.prog.underlying t = some (.slice e)) (he : Try.prog.underlying e = some (.int .i64)) (hc : Try.prog.cellsOf e = 1)
    (h : DataW.trod enc Try.prog W 0 spare held fuel t [.slice A n c] = some x) :
    ∃ l : List Int, l.length = n ∧ n ≤ c ∧ c ≤ maxLen ∧ Kd.C (Kd.int .i64) W A n l ∧ I64 l :=
  open_row (Kd.int .i64) _ hu hc (fun _ cs y h => open_int1 he cs y h) h
/-- A monomial's cells. -/
theorem open_mono {H : Type} {enc : TypeId × Value → H} {W : World} {held : Bool} {spare : Nat → Bool} {m : Nat} (cs : List Value) (y : DataW H × List MemPlace) (h : DataW.trod enc Try.prog W 0 spare held m 68 cs = some y) :
    ∃ x : S68, k68.K W x cs ∧ ((-9223372036854775808 ≤ x.f0 ∧ x.f0 ≤ 9223372036854775807) ∧ -9223372036854775808 ≤ x.f1 ∧ x.f1 ≤ 9223372036854775807) := by
  obtain ⟨y0, y1, n, _, hl, h0, h1⟩ := trod_struct2 Try.underlying68 h
  have e0 : Try.prog.cellsOf 3 = 1 := by kernel_rfl
  have e1 : Try.prog.cellsOf 2 = 1 := by kernel_rfl
  have e2 : Try.prog.cellsOf 68 = 2 := by kernel_rfl
  simp only [e0, e1] at h0 h1
  rw [e2] at hl
  match cs, hl with
  | [c0, c1], _ =>
    obtain ⟨a, ha, _, hw⟩ := DataW.trod_int Try.underlying3 h0
    obtain ⟨b, hb, _, hw2⟩ := DataW.trod_int Try.underlying2 h1
    simp at ha hb
    subst ha hb
    exact ⟨⟨a, b⟩, k68_mk W ⟨a, b⟩, wf64 hw, wf64 hw2⟩
/-- A form's cells. -/
theorem open_lin {H : Type} {enc : TypeId × Value → H} {W : World} {held : Bool} {spare : Nat → Bool} {m : Nat} (cs : List Value) (y : DataW H × List MemPlace) (h : DataW.trod enc Try.prog W 0 spare held m 62 cs = some y) :
    ∃ (x : S62) (A : Option Addr) (c : Nat), cs = [.int .i64 x.f0, .slice A x.f1.length c] ∧ x.f1.length ≤ c ∧ c ≤ maxLen ∧ Kd.C k68 W A x.f1.length x.f1 ∧ R64 x.f0 ∧ M64 x.f1 := by
  obtain ⟨y0, y1, n, _, hl, h0, h1⟩ := trod_struct2 Try.underlying62 h
  have e1 : Try.prog.cellsOf 2 = 1 := by kernel_rfl
  have e0 : Try.prog.cellsOf 60 = 1 := by kernel_rfl
  have e2 : Try.prog.cellsOf 62 = 2 := by kernel_rfl
  simp only [e0, e1] at h0 h1
  rw [e2] at hl
  match cs, hl with
  | [c0, c1], _ =>
    obtain ⟨a, ha, _, hw⟩ := DataW.trod_int Try.underlying2 h0
    simp at ha
    subst ha
    have h2 : DataW.trod enc Try.prog W 0 spare held n 60 [c1] = some y1 := h1
    have hs : ∃ A n c, c1 = .slice A n c := by
      rcases Go.Deep.open_slice Try.underlying60 h2 with ⟨hcs, _⟩ | ⟨a, len, cap, m, n', D, Pl, hcs, _⟩
      · simp at hcs; exact ⟨_, _, _, hcs⟩
      · simp at hcs; exact ⟨_, _, _, hcs⟩
    obtain ⟨A, len, c, rfl⟩ := hs
    obtain ⟨l, rfl, hc, hm, hC, hQ⟩ := open_row k68 _ Try.underlying60 (by kernel_rfl) (fun _ cs y h => open_mono cs y h) h2
    exact ⟨⟨a, l⟩, A, c, rfl, hc, hm, hC, wf64 hw, hQ⟩
/-- An inequality's cells. -/
theorem open_ineq {H : Type} {enc : TypeId × Value → H} {W : World} {held : Bool} {spare : Nat → Bool} {m : Nat} (cs : List Value) (y : DataW H × List MemPlace) (h : DataW.trod enc Try.prog W 0 spare held m 70 cs = some y) :
    ∃ (x : S70) (A : Option Addr) (c : Nat), cs = [.int .i64 x.f0.f0, .slice A x.f0.f1.length c, .bool x.f1] ∧ x.f0.f1.length ≤ c ∧ c ≤ maxLen ∧ Kd.C k68 W A x.f0.f1.length x.f0.f1 ∧ R64 x.f0.f0 ∧ M64 x.f0.f1 := by
  obtain ⟨y0, y1, n, _, hl, h0, h1⟩ := trod_struct2 Try.underlying70 h
  have e1 : Try.prog.cellsOf 4 = 1 := by kernel_rfl
  have e0 : Try.prog.cellsOf 62 = 2 := by kernel_rfl
  have e2 : Try.prog.cellsOf 70 = 3 := by kernel_rfl
  simp only [e0, e1] at h0 h1
  rw [e2] at hl
  match cs, hl with
  | [c0, c1, c2], _ =>
    obtain ⟨b, hb, _⟩ := DataW.trod_bool Try.underlying4 h1
    simp at hb
    subst hb
    obtain ⟨x, A, c, hcs, hc, hm, hC, hr, hM⟩ := open_lin _ _ h0
    simp at hcs
    obtain ⟨rfl, rfl⟩ := hcs
    exact ⟨⟨x, b⟩, A, c, rfl, hc, hm, hC, hr, hM⟩
def Q30 (x : S70) : Prop := R64 x.f0.f0 ∧ M64 x.f0.f1 ∧ x.f0.f1.length ≤ maxLen
theorem open_ineqK {H : Type} {enc : TypeId × Value → H} {W : World} {held : Bool} {spare : Nat → Bool} {m : Nat} (cs : List Value) (y : DataW H × List MemPlace) (h : DataW.trod enc Try.prog W 0 spare held m 70 cs = some y) :
    ∃ x : S70, k70.K W x cs ∧ Q30 x := by
  obtain ⟨x, A, c, rfl, hc, hm, hC, hr, hM⟩ := open_ineq cs y h
  exact ⟨x, k70_mk W x hc hC, hr, hM, Nat.le_trans hc hm⟩
section
variable (l : List S70) (v : Int) (x : List Int) (hl : l.length ≤ 1000) (hR : ∀ q ∈ l, R64 q.f0.f0 ∧ M64 q.f0.f1) (hm : ∀ q ∈ l, q.f0.f1.length ≤ 1000000) (hx : I64 x) (hr : ∀ q ∈ l, q.f1 = false ∧ rightL (-1) q.f0.f1 = true)
include hl hR hm hx hr
theorem refBetween_l0 : ∀ (d i : Nat) (lo up : Int) (has is_ : Bool), l.length - i = d → i ≤ l.length → Ev (fun k => sequiturref30_Between.l0 k l v x lo up has is_ i) (betD v x (l.drop i) lo up has is_) := by
  intro d
  induction d with
  | zero =>
    intro i lo up has is_ h1 h2
    rw [List.drop_eq_nil_of_le (by omega)]
    refine Ev.succ ?_
    simp only [sequiturref30_Between.l0]
    exact Ev.neg (by omega) (Ev.now fun _ => rfl)
  | succ d ih =>
    intro i lo up has is_ h1 h2
    have hi : i < l.length := by omega
    have hq := hR _ (List.getElem_mem hi)
    have hlq := hm _ (List.getElem_mem hi)
    have hrq := (hr _ (List.getElem_mem hi)).2
    have hI := fun lo up has is_ => ih (i+1) lo up has is_ (by omega) (by omega)
    have hcR : R64 (cf v l[i]) := coefI_R64 _ v hq.2
    have hwi : wrap64 ((i:Int) + 1) = ((i+1 : Nat) : Int) := by rw [w64 (by omega) (by omega)]; omega
    rw [List.drop_eq_getElem_cons hi]
    refine Ev.succ ?_
    simp only [sequiturref30_Between.l0]
    rw [rdI_at l i hi, hwi]
    refine Ev.pos (by omega) (Ev.pos (by omega) (Ev.bind (by27_ev l[i].f0.f0 l[i].f0.f1 v hrq) ?_))
    simp only [betD]
    have hcf : coefI l[i].f0.f1 v = cf v l[i] := rfl
    rw [hcf]
    by_cases c0 : cf v l[i] = 0
    · rw [if_pos c0]
      exact Ev.pos c0 (hI lo up has is_)
    rw [if_neg c0]
    refine Ev.neg c0 (Ev.bind (less27_ev l[i].f0.f0 l[i].f0.f1 v hlq) (Ev.bind (refEvalRest_ev l[i] v x hq hrq hx hlq) ?_))
    have hbad : ∀ n : Int, Ev (fun k => sequiturref30_Between.j1 k l v x lo up has is_ i (cf v l[i]) n true) (0, 0, false, false, 5) := by
      intro n
      refine Ev.succ ?_
      simp only [sequiturref30_Between.j1]
      exact Ev.pos trivial (Ev.now fun _ => rfl)
    have hz : R64 (0 : Int) := ⟨by omega, by omega⟩
    unfold evR
    by_cases cR : R64 (rV v x l[i])
    · rw [if_pos cR, if_neg (fun h => h cR)]
      by_cases cn : cf v l[i] < 0
      · rw [if_pos cn]
        simp only
        rw [allow_low cR hcR cn]
        refine Ev.bind (Ev.now fun _ => rfl) (Ev.pos (by simp) ?_)
        refine Ev.succ ?_
        simp only [sequiturref30_Between.j1]
        refine Ev.neg (by simp) (Ev.pos cn ?_)
        cases has
        · rw [if_neg (by simp)]
          refine Ev.neg (by simp) (Ev.succ ?_)
          simp only [sequiturref30_Between.j2]
          rw [hwi]
          exact Ev.pos trivial (Ev.neg (by omega) (hI _ up true is_))
        · refine Ev.pos (by simp) (Ev.succ ?_)
          simp only [sequiturref30_Between.j2]
          rw [hwi]
          by_cases c2 : ceilD (rV v x l[i]) (-cf v l[i]) > lo
          · rw [if_neg (fun h => h.2 c2)]
            exact Ev.pos (decide_eq_true c2) (Ev.neg (by omega) (hI _ up true is_))
          · rw [if_pos ⟨by simp, c2⟩]
            exact Ev.neg (by simpa using c2) (Ev.neg (by omega) (hI lo up true is_))
      · rw [if_neg cn]
        simp only
        rw [allow_up cR hcR (by omega)]
        refine Ev.bind (Ev.now fun _ => rfl) (Ev.pos (by simp) ?_)
        unfold fitR
        by_cases cU : R64 (-(ceilD (rV v x l[i]) (cf v l[i])))
        · rw [if_pos cU, if_neg (fun h => h cU)]
          refine Ev.succ ?_
          simp only [sequiturref30_Between.j1]
          refine Ev.neg (by simp) (Ev.neg cn (Ev.succ ?_))
          simp only [sequiturref30_Between.j2]
          rw [hwi]
          refine Ev.neg (by simp) (Ev.pos (by omega) ?_)
          cases is_
          · rw [if_neg (by simp)]
            exact Ev.neg (by simp) (hI lo _ has true)
          · refine Ev.pos (by simp) ?_
            by_cases c2 : -(ceilD (rV v x l[i]) (cf v l[i])) < up
            · rw [if_neg (fun h => h.2 c2)]
              exact Ev.pos c2 (hI lo _ has true)
            · rw [if_pos ⟨by simp, c2⟩]
              exact Ev.neg c2 (hI lo up has true)
        · rw [if_neg cU, if_pos cU]
          exact hbad _
    · rw [if_neg cR, if_pos cR]
      by_cases cn : cf v l[i] < 0
      · simp only
        rw [allow_low hz hcR cn]
        exact Ev.bind (Ev.now fun _ => rfl) (Ev.neg (by simp) (hbad _))
      · simp only
        rw [allow_up hz hcR (by omega)]
        exact Ev.bind (Ev.now fun _ => rfl) (Ev.neg (by simp) (hbad _))
end
theorem refBetween_ev (l : List S70) (v : Int) (x : List Int) (hl : l.length ≤ 1000) (hR : ∀ q ∈ l, R64 q.f0.f0 ∧ M64 q.f0.f1) (hm : ∀ q ∈ l, q.f0.f1.length ≤ 1000000) (hx : I64 x) : Ev (fun k => sequiturref30_Between.f k l v x) (betweenD l v x) := by
  refine Ev.bind (right30_ev l v (by omega) (fun q hq => Nat.le_trans (hm q hq) (by decide))) ?_
  unfold betweenD
  by_cases w : wrongB l v = true
  · rw [if_pos w]
    exact Ev.neg (by simp [w]) (Ev.now fun _ => rfl)
  · rw [if_neg w]
    have := refBetween_l0 l v x hl hR hm hx (wrongB_not (show wrongB l v = false by simpa using w)).2.2 _ 0 0 0 false false rfl (by omega)
    rw [List.drop_zero] at this
    exact Ev.pos (by simpa using w) this
theorem ShadowBetween_pure (l : List S70) (v : Int) (x : List Int) (hR : ∀ q ∈ l, Q30 q) (hx : I64 x) (hl : l.length ≤ maxLen) : ∃ k, sequiturlaw30_ShadowBetween.f k l v x = some true := by
  have hmax : maxLen = 9223372036854775807 := rfl
  refine Ev.at_ (f := fun k => sequiturlaw30_ShadowBetween.f k l v x) (Ev.bind alive30_ev (Ev.pos rfl (Ev.bind (long30_ev l 20 (by omega)) ?_)))
  have hj : ∀ b, b = true → Ev (fun k => sequiturlaw30_ShadowBetween.j0 k l v x b) true := by
    intro b hb
    subst hb
    refine Ev.succ ?_
    simp only [sequiturlaw30_ShadowBetween.j0]
    exact Ev.pos trivial (Ev.now fun _ => rfl)
  by_cases hL : longI l 20 = true
  · exact Ev.pos hL (hj _ rfl)
  refine Ev.neg hL ?_
  by_cases h80 : (x.length : Int) > 80
  · exact hj _ (decide_eq_true h80)
  rw [decide_eq_false h80]
  obtain ⟨n1, n2⟩ := longI_not (show longI l 20 = false by simpa using hL)
  have hM : ∀ q ∈ l, R64 q.f0.f0 ∧ M64 q.f0.f1 := fun q hq => ⟨(hR q hq).1, (hR q hq).2.1⟩
  have hm2 : ∀ q ∈ l, q.f0.f1.length ≤ 1000000 := fun q hq => Nat.le_trans (n2 q hq) (by decide)
  refine Ev.succ ?_
  simp only [sequiturlaw30_ShadowBetween.j0]
  refine Ev.neg (by simp) (Ev.bind (between_ev l v x (by omega) hM hm2 hx) (Ev.bind (refBetween_ev l v x (by omega) hM hm2 hx) ?_))
  exact Ev.pos rfl (Ev.pos rfl (Ev.pos (by simp) (Ev.pos (by simp) (Ev.now fun _ => by simp))))
end Go.Proofs.Ytkfbfgkdabljiaa.Pure
