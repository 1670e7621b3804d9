/- What is found in a box holds, nothing ahead of it does, and what is counted is what holds: for every inequalities and box (asked of at most 20 inequalities, of 20 monomials each, 10 variables). -/
import Derived.Test.YtkfbfgkdabljiaaPBoxFirstx
import Derived.Laws.BitsAllLaws
import Derived.Deep.Slices
import Derived.ChangeSame
import Derived.KernelRfl
import Derived.OpenShut
namespace Go.Proofs.Ytkfbfgkdabljiaa.Pure
open Go.RowKit Go.Proofs.Ytkfbfgkdabljiaa.PBoxFirst Go.Proofs.YtkfbfgkdabljiaaW.PrintWords Go.Proofs.YtkfbfgkdabljiaaW.PrintLast
set_option linter.unusedVariables false
set_option linter.unusedSimpArgs false
theorem abs_mul_lt {a b : Int} (h1 : -9223372036854775808 ≤ a) (h2 : a ≤ 9223372036854775807) (h3 : -9223372036854775808 ≤ b) (h4 : b ≤ 9223372036854775807) : a.natAbs * b.natAbs ≤ 85070591730234615865843651857942052864 :=
  Nat.le_trans (Nat.mul_le_mul (show a.natAbs ≤ 9223372036854775808 by omega) (show b.natAbs ≤ 9223372036854775808 by omega)) (by decide)
-- one round of the halving: x odd, y = 2^t * z, z odd
theorem u64w (n : Int) : IntKind.u64.wrap n = n % 18446744073709551616 := by
  simp [IntKind.wrap, IntKind.bits, IntKind.signed]
theorem wf64 {a : Int} (h : (Lit.int .i64 a).wf = true) : -9223372036854775808 ≤ a ∧ a ≤ 9223372036854775807 := by
  simpa [Lit.wf, IntKind.min, IntKind.max, IntKind.signed, IntKind.bits] using h
theorem w64 {n : Int} (h1 : -9223372036854775808 ≤ n) (h2 : n ≤ 9223372036854775807) : wrap64 n = n := by
  unfold wrap64; omega
def I64 (l : List Int) : Prop := ∀ x ∈ l, -9223372036854775808 ≤ x ∧ x ≤ 9223372036854775807
theorem rd_at (l : List Int) (i : Nat) (h : i < l.length) : rd l (i:Int) = l[i] := by
  simp [rd, h]
/-- At all great fuels the same answer. -/
def Ev {α : Type} (f : Nat → Option α) (v : α) : Prop := ∃ K, ∀ k, K ≤ k → f k = some v
theorem Ev.now {α : Type} {f : Nat → Option α} {v : α} (h : ∀ k, f k = some v) : Ev f v := ⟨0, fun k _ => h k⟩
theorem Ev.succ {α : Type} {f : Nat → Option α} {v : α} (h : Ev (fun k => f (k + 1)) v) : Ev f v := by
  obtain ⟨K, h⟩ := h
  refine ⟨K + 1, fun k hk => ?_⟩
  obtain ⟨m, rfl⟩ : ∃ m, k = m + 1 := ⟨k - 1, by omega⟩
  exact h m (by omega)
theorem Ev.bind {α β : Type} {f : Nat → Option α} {g : Nat → α → Option β} {v : α} {u : β} (h : Ev f v) (h2 : Ev (fun k => g k v) u) : Ev (fun k => (f k).bind (g k)) u := by
  obtain ⟨K, h⟩ := h
  obtain ⟨K2, h2⟩ := h2
  refine ⟨max K K2, fun k hk => ?_⟩
  show (f k).bind (g k) = some u
  rw [h k (by omega)]
  exact h2 k (by omega)
theorem Ev.of {α : Type} {f g : Nat → Option α} {v : α} (h : Ev f v) (e : ∀ k, g k = f k) : Ev g v := by
  obtain ⟨K, h⟩ := h
  exact ⟨K, fun k hk => (e k).trans (h k hk)⟩
theorem Ev.at_ {α : Type} {f : Nat → Option α} {v : α} (h : Ev f v) : ∃ k, f k = some v := by
  obtain ⟨K, h⟩ := h
  exact ⟨K, h K (Nat.le_refl _)⟩
theorem Ev.mono {α : Type} {f : Nat → Option α} {v : α} (K : Nat) (hm : ∀ k, LeO (f k) (f (k + 1))) (h : f K = some v) : Ev f v := by
  refine ⟨K, fun k hk => ?_⟩
  obtain ⟨d, rfl⟩ := Nat.exists_eq_add_of_le hk
  induction d with
  | zero => exact h
  | succ d ih => exact hm (K + d) v (ih (by omega))
theorem Ev.val {α : Type} {f : Nat → Option α} {v u : α} (h : Ev f v) (e : v = u) : Ev f u := e ▸ h
theorem Ev.pos {α : Type} {c : Prop} [Decidable c] {f g : Nat → Option α} {v : α} (h : c) (hf : Ev f v) : Ev (fun k => if c then f k else g k) v := hf.of fun k => if_pos h
theorem Ev.neg {α : Type} {c : Prop} [Decidable c] {f g : Nat → Option α} {v : α} (h : ¬ c) (hf : Ev g v) : Ev (fun k => if c then f k else g k) v := hf.of fun k => if_neg h
theorem rdM_at (l : List S68) (i : Nat) (h : i < l.length) : rd_T68 l (i:Int) = l[i] := by simp [rd_T68, h]
theorem rdQ_at (l : List S62) (i : Nat) (h : i < l.length) : rd_T62 l (i:Int) = l[i] := by simp [rd_T62, h]
theorem rdI_at (l : List S70) (i : Nat) (h : i < l.length) : rd_T70 l (i:Int) = l[i] := by simp [rd_T70, h]
/-- Are the variables in order, of the 64, and no factor zero? -/
def rightL : Int → List S68 → Bool
  | _, [] => true
  | last, m :: l => decide (last < m.f0) && decide (m.f0 < 64) && decide (m.f1 ≠ 0) && rightL m.f0 l
theorem Right_l0 (l : List S68) (hl : l.length ≤ 9223372036854775807) : ∀ (d i : Nat) (last : Int), l.length - i = d → i ≤ l.length →
    Ev (fun k => lin_Right.l0 k last l (l.length:Int) i) (if rightL last (l.drop i) = true then 0 else 1) := by
  intro d
  induction d with
  | zero =>
    intro i last h1 h2
    refine Ev.succ (Ev.now fun k => ?_)
    simp only [lin_Right.l0]
    rw [if_neg (by omega), List.drop_eq_nil_of_le (by omega)]; rfl
  | succ d ih =>
    intro i last h1 h2
    have hi : i < l.length := by omega
    rw [List.drop_eq_getElem_cons hi]
    by_cases e : last < l[i].f0 ∧ l[i].f0 < 64 ∧ l[i].f1 ≠ 0
    · obtain ⟨e1, e2, e3⟩ := e
      refine Ev.succ (Ev.of (ih (i+1) l[i].f0 (by omega) (by omega)) fun k => ?_) |>.val ?_
      · simp only [lin_Right.l0]
        rw [if_pos (by omega), if_pos (by omega), if_pos (by omega), rdM_at l i hi, if_neg (by omega), if_neg (by omega), if_neg e3, w64 (by omega) (by omega)]; rfl
      · simp only [rightL, decide_eq_true e1, decide_eq_true e2, decide_eq_true e3, Bool.true_and]
    · refine Ev.succ (Ev.now fun k => ?_)
      have hr : rightL last (l[i] :: l.drop (i+1)) = false := by
        simp only [rightL, Bool.and_eq_false_iff, decide_eq_false_iff_not]
        omega
      rw [hr]
      simp only [lin_Right.l0]
      rw [if_pos (by omega), if_pos (by omega), if_pos (by omega), rdM_at l i hi]
      by_cases e1 : l[i].f0 ≤ last
      · rw [if_pos e1]; rfl
      by_cases e2 : l[i].f0 ≥ 64
      · rw [if_neg e1, if_pos e2]; rfl
      · rw [if_neg e1, if_neg e2, if_pos (by omega)]; rfl
theorem Right_ev (K : Int) (l : List S68) (hl : l.length ≤ 9223372036854775807) : Ev (fun k => lin_Right.f k K l) (if rightL (-1) l = true then 0 else 1) := by
  have := Right_l0 l hl _ 0 (-1) rfl (by omega)
  exact this
theorem iRight_ev (K : Int) (l : List S68) (b : Bool) (hl : l.length ≤ 9223372036854775807) : Ev (fun k => ineq_Right.f k K l b) (if rightL (-1) l = true then 0 else 1) :=
  Ev.bind (Right_ev K l hl) (Ev.now fun _ => rfl)
theorem right1_ev (K : Int) (l : List S68) (hl : l.length ≤ 9223372036854775807) : Ev (fun k => lin_right_1.f k K l) (!rightL (-1) l) :=
  Ev.bind (Right_ev K l hl) (Ev.now fun _ => by cases rightL (-1) l <;> rfl)
theorem idx_l0 (l : List S62) (hl : l.length ≤ 9223372036854775807) (hm : ∀ q ∈ l, q.f1.length ≤ 9223372036854775807) : ∀ (d i : Nat), l.length - i = d → i ≤ l.length →
    ∃ v, Ev (fun k => api_Lin_117.l0 k l (l.length:Int) i) v ∧ decide (v ≥ 0) = !((l.drop i).all fun q => rightL (-1) q.f1) := by
  intro d
  induction d with
  | zero =>
    intro i h1 h2
    refine ⟨-1, Ev.succ (Ev.now fun k => ?_), ?_⟩
    · simp only [api_Lin_117.l0]
      rw [if_neg (by omega)]
    · rw [List.drop_eq_nil_of_le (by omega)]; rfl
  | succ d ih =>
    intro i h1 h2
    have hi : i < l.length := by omega
    rw [List.drop_eq_getElem_cons hi]
    have hq := right1_ev l[i].f0 l[i].f1 (hm _ (List.getElem_mem hi))
    obtain ⟨v, ev, hv⟩ := ih (i+1) (by omega) (by omega)
    have hs : ∀ k, api_Lin_117.l0 (k+1) l (l.length:Int) i = (lin_right_1.f k l[i].f0 l[i].f1).bind fun t => if t = true then some (i:Int) else api_Lin_117.l0 k l (l.length:Int) ((i+1 : Nat) : Int) := by
      intro k
      simp only [api_Lin_117.l0]
      rw [if_pos (by omega), if_pos (by omega), if_pos (by omega), rdQ_at l i hi, w64 (by omega) (by omega)]; rfl
    by_cases e : rightL (-1) l[i].f1 = true
    · rw [e] at hq
      refine ⟨v, Ev.succ (Ev.of (Ev.bind hq ?_) hs), ?_⟩
      · exact Ev.of ev fun k => by simp
      · rw [hv, List.all_cons, e, Bool.true_and]
    · have e' : rightL (-1) l[i].f1 = false := by simpa using e
      rw [e'] at hq
      refine ⟨i, Ev.succ (Ev.of (Ev.bind hq ?_) hs), ?_⟩
      · exact Ev.now fun k => by simp
      · rw [List.all_cons, e']; simp
theorem linright_ev (l : List S62) (hl : l.length ≤ 9223372036854775807) (hm : ∀ q ∈ l, q.f1.length ≤ 9223372036854775807) : Ev (fun k => lin_right.f k l) (l.all fun q => rightL (-1) q.f1) := by
  obtain ⟨v, ev, hv⟩ := idx_l0 l hl hm _ 0 rfl (by omega)
  rw [List.drop_zero] at hv
  refine Ev.bind (v := decide (v ≥ 0)) (Ev.bind ev (Ev.now fun _ => rfl)) (Ev.now fun _ => ?_)
  rw [hv]; simp
theorem rightL_mem : ∀ (l : List S68) (last : Int), rightL last l = true → ∀ m ∈ l, last < m.f0 ∧ m.f0 < 64 ∧ m.f1 ≠ 0 := by
  intro l
  induction l with
  | nil => intro last _ m hm; cases hm
  | cons a l ih =>
    intro last h m hm
    simp only [rightL, Bool.and_eq_true, decide_eq_true_eq] at h
    rcases List.mem_cons.1 hm with e | e
    · subst e; exact ⟨h.1.1.1, h.1.1.2, h.1.2⟩
    · have := ih a.f0 h.2 m e; omega
theorem rightL_len : ∀ (l : List S68) (last : Int), last ≤ 63 → rightL last l = true → (l.length : Int) ≤ 63 - last := by
  intro l
  induction l with
  | nil => intro last h _; simp; omega
  | cons a l ih =>
    intro last h0 h
    simp only [rightL, Bool.and_eq_true, decide_eq_true_eq] at h
    have := ih a.f0 (by omega) h.2
    simp only [List.length_cons]; omega
/-- The monomials' ranges. -/
def M64 (l : List S68) : Prop := ∀ m ∈ l, (-9223372036854775808 ≤ m.f0 ∧ m.f0 ≤ 9223372036854775807) ∧ -9223372036854775808 ≤ m.f1 ∧ m.f1 ≤ 9223372036854775807
def R64 (n : Int) : Prop := -9223372036854775808 ≤ n ∧ n ≤ 9223372036854775807
theorem in64_of {n : Int} (h : R64 n) : in64 n = true := by
  simp only [in64, Bool.and_eq_true, decide_eq_true_eq]; exact h
theorem rd_R64 {x : List Int} (hx : I64 x) (i : Int) : R64 (rd x i) := by
  unfold rd
  by_cases h : i.toNat < x.length
  · rw [List.getD_eq_getElem?_getD, List.getElem?_eq_getElem h]; exact hx _ (List.getElem_mem h)
  · rw [List.getD_eq_getElem?_getD, List.getElem?_eq_none (by omega)]; exact ⟨by simp, by simp⟩
theorem mul_R64 {a b : Int} (ha : R64 a) (hb : R64 b) : -85070591730234615865843651857942052864 ≤ a * b ∧ a * b ≤ 85070591730234615865843651857942052864 := by
  have h := abs_mul_lt ha.1 ha.2 hb.1 hb.2
  rw [← Int.natAbs_mul] at h
  omega
theorem wrap192_id {s : Int} (h1 : -3138550867693340381917894711603833208051177722232017256448 ≤ s) (h2 : s < 3138550867693340381917894711603833208051177722232017256448) : wrap192 s = s := by
  unfold wrap192; omega
instance instR64 (n : Int) : Decidable (R64 n) := inferInstanceAs (Decidable (_ ∧ _))
theorem evalFold_le (x : List Int) (hx : I64 x) : ∀ (l : List S68) (s : Int), M64 l →
    s - l.length * 85070591730234615865843651857942052864 ≤ l.foldl (evalStep x) s ∧ l.foldl (evalStep x) s ≤ s + l.length * 85070591730234615865843651857942052864 := by
  intro l
  induction l with
  | nil => intro s _; simp
  | cons a l ih =>
    intro s h
    have h1 := ih (evalStep x s a) (fun m hm => h m (List.mem_cons_of_mem _ hm))
    have h2 := mul_R64 (h a (List.mem_cons_self ..)).2 (rd_R64 hx a.f0)
    have h3 : s - 85070591730234615865843651857942052864 ≤ evalStep x s a ∧ evalStep x s a ≤ s + 85070591730234615865843651857942052864 := by
      unfold evalStep; split <;> omega
    simp only [List.foldl_cons, List.length_cons]
    omega
theorem evalSum_le (K : Int) (l : List S68) (x : List Int) (hK : R64 K) (hl : M64 l) (hx : I64 x) (hr : rightL (-1) l = true) :
    -3138550867693340381917894711603833208051177722232017256448 ≤ evalSum K l x ∧ evalSum K l x < 3138550867693340381917894711603833208051177722232017256448 := by
  have h := evalFold_le x hx l (0 + K * 1) hl
  have h2 := rightL_len l (-1) (by omega) hr
  unfold evalSum
  have := hK.1
  have := hK.2
  omega
theorem Eval_ev (K : Int) (l : List S68) (x : List Int) (hK : R64 K) (hl : M64 l) (hx : I64 x) (hlen : l.length ≤ 9223372036854775807) :
    Ev (fun k => lin_Eval.f k K l x) (if rightL (-1) l = true then (if (fit64 (evalSum K l x)).2 = true then ((fit64 (evalSum K l x)).1, 0) else (0, 5)) else (0, 1)) := by
  have h := linright_ev [⟨K, l⟩] (by simp) (by intro q hq; simp at hq; subst hq; exact hlen)
  refine Ev.bind h (Ev.now fun _ => ?_)
  simp only [List.all_cons, List.all_nil, Bool.and_true]
  by_cases e : rightL (-1) l = true
  · rw [if_pos e, if_pos e]
    have hb := evalSum_le K l x hK hl hx e
    have hok : (in64 K && l.all (evalOk x)) = true := by
      rw [in64_of hK, Bool.true_and, List.all_eq_true]
      intro m hm
      have := (rightL_mem l (-1) e m hm).1
      simp only [evalOk, Bool.and_eq_true, Bool.or_eq_true, decide_eq_true_eq]
      exact ⟨by omega, .inr ⟨in64_of (hl m hm).2, in64_of (rd_R64 hx _)⟩⟩
    rw [if_pos hok]
    unfold fit192
    rw [wrap192_id hb.1 hb.2]
  · rw [if_neg e, if_neg e]
/-- Does an inequality hold? -/
def holdsD (K : Int) (l : List S68) (b : Bool) (x : List Int) : Bool × Int :=
  if rightL (-1) l = true then
    (if R64 (evalSum K l x) then (if evalSum K l x = 0 then (true, 0) else if evalSum K l x < 0 then (!b, 0) else (false, 0)) else (false, 5))
  else (false, 1)
theorem Holds_ev {K : Int} (hK : R64 K) (l : List S68) (b : Bool) (x : List Int) (hl : M64 l) (hx : I64 x) (hlen : l.length ≤ 1000000) :
    Ev (fun k => ineq_Holds.f k K l b x) (holdsD K l b x) := by
  refine Ev.bind (iRight_ev K l b (by omega)) ?_
  unfold holdsD
  by_cases e : rightL (-1) l = true
  · rw [if_pos e, if_pos e]
    simp only [if_true]
    refine Ev.bind (Eval_ev K l x hK hl hx (by omega)) (Ev.now fun k => ?_)
    rw [if_pos e]
    unfold fit64
    by_cases e2 : R64 (evalSum K l x)
    · rw [if_pos e2]
      have : -9223372036854775808 ≤ evalSum K l x ∧ evalSum K l x ≤ 9223372036854775807 := e2
      simp only [if_pos this, if_true]
      repeat' split
      all_goals rfl
    · rw [if_neg e2]
      have : ¬ (-9223372036854775808 ≤ evalSum K l x ∧ evalSum K l x ≤ 9223372036854775807) := e2
      simp only [if_neg this, if_true]
      rfl
  · rw [if_neg e, if_neg e]
    exact Ev.now fun k => by rw [if_neg (by decide)]
/-- How many there are; how many from x on; the next one; whether x is one. -/
def bxN : List Int → List Int → Int
  | a :: lo, b :: hi => (b - a + 1) * bxN lo hi
  | _, _ => 1
def bxC : List Int → List Int → List Int → Int
  | a :: lo, b :: hi, v :: x => bxC lo hi x + (b - v) * bxN lo hi
  | _, _, _ => 1
def nxL : List Int → List Int → List Int → Option (List Int)
  | a :: lo, b :: hi, v :: x => match nxL lo hi x with
    | some y => some (v :: y)
    | none => if v < b then some ((v + 1) :: lo) else none
  | _, _, _ => none
def inB : List Int → List Int → List Int → Prop
  | a :: lo, b :: hi, v :: x => a ≤ v ∧ v ≤ b ∧ inB lo hi x
  | [], [], [] => True
  | _, _, _ => False
theorem inB_len : ∀ {lo hi x : List Int}, inB lo hi x → lo.length = hi.length ∧ x.length = hi.length
  | [], [], [], _ => ⟨rfl, rfl⟩
  | a :: lo, b :: hi, v :: x, h => by have := inB_len h.2.2; simp [this.1, this.2]
theorem inB_lo : ∀ {lo hi x : List Int}, inB lo hi x → inB lo hi lo
  | [], [], [], _ => trivial
  | a :: lo, b :: hi, v :: x, h => ⟨Int.le_refl _, by have := h.1; have := h.2.1; omega, inB_lo h.2.2⟩
theorem bxN_pos : ∀ {lo hi x : List Int}, inB lo hi x → 1 ≤ bxN lo hi
  | [], [], [], _ => by simp [bxN]
  | a :: lo, b :: hi, v :: x, h => by
    have h1 := bxN_pos h.2.2
    have h2 : 1 * 1 ≤ (b - a + 1) * bxN lo hi := Int.mul_le_mul (by have := h.1; have := h.2.1; omega) h1 (by omega) (by have := h.1; have := h.2.1; omega)
    simpa [bxN] using h2
theorem bxC_pos : ∀ {lo hi x : List Int}, inB lo hi x → 1 ≤ bxC lo hi x
  | [], [], [], _ => by simp [bxC]
  | a :: lo, b :: hi, v :: x, h => by
    have h1 := bxC_pos h.2.2
    have h2 := bxN_pos h.2.2
    have h3 : 0 ≤ (b - v) * bxN lo hi := Int.mul_nonneg (by have := h.2.1; omega) (by omega)
    simp only [bxC]; omega
theorem bxC_lo : ∀ {lo hi : List Int}, inB lo hi lo → bxC lo hi lo = bxN lo hi
  | [], [], _ => by simp [bxC, bxN]
  | a :: lo, b :: hi, h => by
    have h1 := bxC_lo h.2.2
    simp only [bxC, bxN]
    rw [h1, Int.add_mul]; omega
theorem nx_none : ∀ {lo hi x : List Int}, inB lo hi x → nxL lo hi x = none → bxC lo hi x = 1
  | [], [], [], _, _ => by simp [bxC]
  | a :: lo, b :: hi, v :: x, h, e => by
    simp only [nxL] at e
    cases hn : nxL lo hi x with
    | some y => rw [hn] at e; cases e
    | none =>
      rw [hn] at e
      simp only at e
      split at e
      · cases e
      · have h1 := nx_none h.2.2 hn
        have : v = b := by have := h.2.1; omega
        subst this
        simp [bxC, h1]
theorem nx_some : ∀ {lo hi x y : List Int}, inB lo hi x → nxL lo hi x = some y → inB lo hi y ∧ bxC lo hi x = bxC lo hi y + 1
  | [], [], [], y, _, e => by simp [nxL] at e
  | a :: lo, b :: hi, v :: x, y, h, e => by
    simp only [nxL] at e
    cases hn : nxL lo hi x with
    | some z =>
      rw [hn] at e
      obtain rfl := Option.some.inj e
      obtain ⟨h1, h2⟩ := nx_some h.2.2 hn
      exact ⟨⟨h.1, h.2.1, h1⟩, by simp only [bxC]; omega⟩
    | none =>
      rw [hn] at e
      simp only at e
      split at e
      · rename_i hlt
        obtain rfl := Option.some.inj e
        have h1 := nx_none h.2.2 hn
        have h3 := inB_lo h.2.2
        have h2 := bxC_lo h3
        refine ⟨⟨by have := h.1; omega, by omega, h3⟩, ?_⟩
        simp only [bxC]
        rw [h1, h2, show b - v = (b - (v + 1)) + 1 by omega, Int.add_mul]; omega
      · cases e
/-- As many points as c, from x on. -/
def ptsF (lo hi : List Int) : Nat → List Int → List (List Int)
  | 0, _ => []
  | c + 1, x => x :: (match nxL lo hi x with | some y => ptsF lo hi c y | none => [])
/-- The next one as it is looked for: from the right. -/
def nxI (lo hi x : List Int) : Nat → Option (List Int)
  | 0 => none
  | i + 1 => if rd x i < rd hi i then some (x.take i ++ (rd x i + 1) :: lo.drop (i + 1)) else nxI lo hi x i
theorem rd_cons (a : Int) (l : List Int) (i : Nat) : rd (a :: l) ((i + 1 : Nat) : Int) = rd l (i : Int) := by
  unfold rd
  rw [show (((i + 1 : Nat) : Int)).toNat = i + 1 by omega, show ((i : Int)).toNat = i by omega, List.getD_cons_succ]
theorem nxI_cons (a b v : Int) (lo hi x : List Int) : ∀ i, nxI (a :: lo) (b :: hi) (v :: x) (i + 1) = (match nxI lo hi x i with | some y => some (v :: y) | none => if v < b then some ((v + 1) :: lo) else none) := by
  intro i
  induction i with
  | zero => simp [nxI, rd]
  | succ i ih =>
    rw [nxI, rd_cons, rd_cons]
    by_cases c : rd x (i : Int) < rd hi (i : Int)
    · rw [if_pos c]
      simp [nxI, c]
    · rw [if_neg c, ih]
      simp [nxI, c]
theorem nxI_all : ∀ {lo hi x : List Int}, inB lo hi x → nxI lo hi x x.length = nxL lo hi x
  | [], [], [], _ => rfl
  | a :: lo, b :: hi, v :: x, h => by
    rw [List.length_cons, nxI_cons, nxI_all h.2.2]
    rfl
theorem take_set (x lo : List Int) (i : Nat) (hi : i < x.length) (hl : x.length = lo.length) (v : Int) : (x.take (i + 1) ++ lo.drop (i + 1)).set i v = x.take i ++ v :: lo.drop (i + 1) := by
  rw [List.take_succ_eq_append_getElem hi, List.append_assoc, List.set_append_right _ _ (by simp; omega)]
  simp [Nat.min_eq_left (Nat.le_of_lt hi)]
theorem take_rd (x lo : List Int) (i : Nat) (hi : i < x.length) : rd (x.take (i + 1) ++ lo.drop (i + 1)) (i : Int) = rd x (i : Int) := by
  rw [rd_at _ i (by simp; omega), rd_at _ i hi, List.getElem_append_left (by simp; omega), List.getElem_take]
section
variable {lo hi x : List Int} (hB : inB lo hi x) (hx : I64 x) (hh : I64 hi) (hl : x.length ≤ 1000000)
include hB hx hh hl
theorem step_l0 : ∀ i, i ≤ x.length → Ev (fun k => box_step.l0 k lo hi (x.take i ++ lo.drop i) ((i : Int) - 1)) ((nxI lo hi x i).getD lo) := by
  obtain ⟨n1, n2⟩ := inB_len hB
  intro i
  induction i with
  | zero =>
    intro _
    refine Ev.succ ?_
    simp only [box_step.l0]
    exact Ev.neg (by omega) (Ev.now fun _ => by simp [nxI])
  | succ i ih =>
    intro hi'
    have hI := ih (by omega)
    have hlen : (x.take (i + 1) ++ lo.drop (i + 1)).length = x.length := by simp; omega
    have hr1 := rd_at x i (by omega)
    have hr2 := rd_at hi i (by omega)
    have r1 := hx x[i] (List.getElem_mem (by omega))
    have r2 := hh hi[i] (List.getElem_mem (by omega))
    refine Ev.succ ?_
    simp only [box_step.l0]
    rw [show ((i + 1 : Nat) : Int) - 1 = (i : Int) by omega, hlen, take_rd x lo i (by omega), show ((i : Int)).toNat = i by omega, take_set x lo i (by omega) (by omega), take_set x lo i (by omega) (by omega)]
    refine Ev.pos (by omega) (Ev.pos (by omega) (Ev.pos (by omega) ?_))
    by_cases c : rd x (i : Int) < rd hi (i : Int)
    · have hw : wrap64 (rd x (i : Int) + 1) = rd x (i : Int) + 1 := w64 (by rw [hr1]; omega) (by rw [hr1, hr2] at c; rw [hr1]; omega)
      rw [hw]
      refine Ev.pos c (Ev.now fun _ => ?_)
      simp [nxI, c]
    · refine Ev.neg c (Ev.pos (by omega) ?_)
      have he : x.take i ++ rd lo (i : Int) :: lo.drop (i + 1) = x.take i ++ lo.drop i := by
        rw [rd_at lo i (by omega), ← List.drop_eq_getElem_cons]
      have hn : nxI lo hi x (i + 1) = nxI lo hi x i := by simp [nxI, c]
      rw [he, hn, show wrap64 ((i : Int) - 1) = (i : Int) - 1 by rw [w64 (by omega) (by omega)]]
      exact hI
theorem step_ev : Ev (fun k => box_step.f k lo hi x) ((nxL lo hi x).getD lo) := by
  obtain ⟨n1, n2⟩ := inB_len hB
  have h := step_l0 hB hx hh hl x.length (Nat.le_refl _)
  rw [nxI_all hB, List.take_length, List.drop_eq_nil_of_le (by omega), List.append_nil] at h
  unfold box_step.f
  rw [show wrap64 ((x.length : Int) - 1) = (x.length : Int) - 1 by rw [w64 (by omega) (by omega)]]
  exact h
end
theorem nx_I64 : ∀ {lo hi x y : List Int}, inB lo hi x → I64 lo → I64 hi → I64 x → nxL lo hi x = some y → I64 y := by
  intro lo hi x y hB h1 h2 h3 e
  have key : ∀ {lo hi x : List Int}, inB lo hi x → I64 lo → I64 hi → I64 x := by
    intro lo
    induction lo with
    | nil =>
      intro hi x h _ _
      cases hi <;> cases x <;> first | exact h.elim | (intro v hv; cases hv)
    | cons a lo ih =>
      intro hi x h g1 g2
      cases hi with
      | nil => cases x <;> exact h.elim
      | cons b hi =>
        cases x with
        | nil => exact h.elim
        | cons v x =>
          have i1 := ih h.2.2 (fun z hz => g1 z (List.mem_cons_of_mem _ hz)) (fun z hz => g2 z (List.mem_cons_of_mem _ hz))
          have ja := g1 a (List.mem_cons_self ..)
          have jb := g2 b (List.mem_cons_self ..)
          intro z hz
          rcases List.mem_cons.1 hz with rfl | hz
          · have := h.1; have := h.2.1; omega
          · exact i1 z hz
  exact key (nx_some hB e).1 h1 h2
def leB : List Int → List Int → Bool
  | a :: lo, b :: hi => decide (a ≤ b) && leB lo hi
  | _, _ => true
/-- The product of the widths; none: more than 65536. -/
def szG : List Int → List Int → Int → Option Int
  | a :: lo, b :: hi, n => if b - a ≥ 65536 then none else if n * (b - a + 1) > 65536 then none else szG lo hi (n * (b - a + 1))
  | _, _, n => some n
theorem szG_val : ∀ {lo hi : List Int} {n m : Int}, szG lo hi n = some m → m = n * bxN lo hi := by
  intro lo
  induction lo with
  | nil => intro hi n m h; cases hi <;> (simp [szG] at h; simp [bxN, h])
  | cons a lo ih =>
    intro hi n m h
    cases hi with
    | nil => simp [szG] at h; simp [bxN, h]
    | cons b hi =>
      simp only [szG] at h
      split at h
      · cases h
      split at h
      · cases h
      rw [ih h, bxN, Int.mul_assoc]
theorem leB_inB : ∀ {lo hi : List Int}, lo.length = hi.length → leB lo hi = true → inB lo hi lo
  | [], [], _, _ => trivial
  | a :: lo, b :: hi, h1, h2 => by
    simp only [leB, Bool.and_eq_true, decide_eq_true_eq] at h2
    exact ⟨Int.le_refl _, h2.1, leB_inB (by simpa using h1) h2.2⟩
/-- The points and the error. -/
def szD (lo hi : List Int) : Int × Int := if lo.length = hi.length ∧ leB lo hi = true then (match szG lo hi 1 with | some m => (m, 0) | none => (0, 2)) else (0, 1)
theorem wide_u64 {a b : Int} (ha : -9223372036854775808 ≤ a) (hb : b ≤ 9223372036854775807) (h : a ≤ b) : IntKind.u64.wrap (IntKind.u64.wrap b - IntKind.u64.wrap a) = b - a := by
  simp only [u64w]; omega
section
variable (lo hi : List Int) (h1 : lo.length = hi.length) (hl : lo.length ≤ 1000000) (r1 : I64 lo) (r2 : I64 hi)
include h1 hl r1 r2
theorem size_l1 (hle : ∀ (i : Nat) (h : i < lo.length), lo[i] ≤ hi[i]'(h1 ▸ h)) : ∀ (d i : Nat) (n : Int), lo.length - i = d → i ≤ lo.length → 1 ≤ n → n ≤ 65536 →
    Ev (fun k => box_size.l1 k lo hi n (lo.length : Int) i) (match szG (lo.drop i) (hi.drop i) n with | some m => (m, 0) | none => (0, 2)) := by
  intro d
  induction d with
  | zero =>
    intro i n e1 e2 n1 n2
    rw [List.drop_eq_nil_of_le (by omega), List.drop_eq_nil_of_le (by omega)]
    refine Ev.succ ?_
    simp only [box_size.l1]
    refine Ev.neg (by omega) (Ev.now fun _ => ?_)
    simp only [szG]
    rw [w64 (by omega) (by omega)]
  | succ d ih =>
    intro i n e1 e2 n1 n2
    have hi1 : i < lo.length := by omega
    have hi2 : i < hi.length := by omega
    have ra := r1 _ (List.getElem_mem hi1)
    have rb := r2 _ (List.getElem_mem hi2)
    have hle1 := hle i hi1
    rw [List.drop_eq_getElem_cons hi1, List.drop_eq_getElem_cons hi2]
    refine Ev.succ ?_
    simp only [box_size.l1]
    rw [rd_at lo i hi1, rd_at hi i hi2, wide_u64 ra.1 rb.2 hle1]
    refine Ev.pos (by omega) (Ev.pos (by omega) (Ev.pos (by omega) (Ev.pos (by omega) ?_)))
    simp only [szG]
    by_cases c : hi[i] - lo[i] ≥ 65536
    · rw [if_pos c]
      exact Ev.pos c (Ev.now fun _ => rfl)
    · rw [if_neg c]
      have hw : IntKind.u64.wrap (hi[i] - lo[i] + 1) = hi[i] - lo[i] + 1 := by simp only [u64w]; omega
      have p0 : 1 * 1 ≤ n * (hi[i] - lo[i] + 1) := Int.mul_le_mul n1 (by omega) (by omega) (by omega)
      have p1 : n * (hi[i] - lo[i] + 1) ≤ 65536 * 65536 := Int.mul_le_mul n2 (by omega) (by omega) (by omega)
      have hm : IntKind.u64.wrap (n * (hi[i] - lo[i] + 1)) = n * (hi[i] - lo[i] + 1) := by simp only [u64w]; omega
      rw [hw, hm]
      refine Ev.neg c ?_
      by_cases c2 : n * (hi[i] - lo[i] + 1) > 65536
      · rw [if_pos c2]
        exact Ev.pos c2 (Ev.now fun _ => rfl)
      · rw [if_neg c2, show wrap64 ((i:Int) + 1) = ((i+1 : Nat) : Int) by rw [w64 (by omega) (by omega)]; omega]
        exact Ev.neg c2 (ih (i + 1) _ (by omega) (by omega) (by omega) (by omega))
omit hl r1 r2 in
theorem leB_at : leB lo hi = true → ∀ (i : Nat) (h : i < lo.length), lo[i] ≤ hi[i]'(h1 ▸ h) := by
  revert hi
  induction lo with
  | nil => intro hi _ _ i h; simp at h
  | cons a lo ih =>
    intro hi h1 h i hi'
    cases hi with
    | nil => simp at h1
    | cons b hi =>
      simp only [leB, Bool.and_eq_true, decide_eq_true_eq] at h
      cases i with
      | zero => exact h.1
      | succ i => exact ih hi (by simpa using h1) h.2 i (by simpa using hi')
omit r1 r2 in
theorem size_l0 (R : Int × Int) (hR : leB lo hi = false → R = (0, 1)) (hgo : leB lo hi = true → Ev (fun k => box_size.l1 k lo hi 1 (lo.length : Int) 0) R) : ∀ (d i : Nat), lo.length - i = d → i ≤ lo.length → leB lo hi = leB (lo.drop i) (hi.drop i) →
    Ev (fun k => box_size.l0 k lo hi (lo.length : Int) i) R := by
  intro d
  induction d with
  | zero =>
    intro i e1 e2 e3
    rw [List.drop_eq_nil_of_le (by omega), List.drop_eq_nil_of_le (by omega)] at e3
    refine Ev.succ ?_
    simp only [box_size.l0]
    exact Ev.neg (by omega) (hgo e3)
  | succ d ih =>
    intro i e1 e2 e3
    have hi1 : i < lo.length := by omega
    have hi2 : i < hi.length := by omega
    rw [List.drop_eq_getElem_cons hi1, List.drop_eq_getElem_cons hi2] at e3
    simp only [leB] at e3
    refine Ev.succ ?_
    simp only [box_size.l0]
    rw [rd_at lo i hi1, rd_at hi i hi2]
    refine Ev.pos (by omega) (Ev.pos (by omega) (Ev.pos (by omega) (Ev.pos (by omega) ?_)))
    by_cases c : lo[i] > hi[i]
    · rw [decide_eq_false (show ¬ lo[i] ≤ hi[i] by omega), Bool.false_and] at e3
      rw [hR e3]
      exact Ev.pos c (Ev.now fun _ => rfl)
    · rw [decide_eq_true (show lo[i] ≤ hi[i] by omega), Bool.true_and] at e3
      rw [show wrap64 ((i:Int) + 1) = ((i+1 : Nat) : Int) by rw [w64 (by omega) (by omega)]; omega]
      exact Ev.neg c (ih (i + 1) (by omega) (by omega) e3)
end
theorem size_ev (lo hi : List Int) (hl : lo.length ≤ 1000000) (r1 : I64 lo) (r2 : I64 hi) : Ev (fun k => box_size.f k lo hi) (szD lo hi) := by
  unfold box_size.f szD
  by_cases h1 : lo.length = hi.length
  · refine Ev.pos (by omega) (size_l0 lo hi h1 hl _ (fun h => by rw [if_neg (by rw [h]; simp)]) (fun h => ?_) _ 0 rfl (by omega) rfl)
    rw [if_pos ⟨h1, h⟩]
    exact size_l1 lo hi h1 hl r1 r2 (leB_at lo hi h1 h) _ 0 1 rfl (by omega) (by omega) (by omega)
  · rw [if_neg (fun h => h1 h.1)]
    exact Ev.neg (by omega) (Ev.now fun _ => rfl)
theorem szG_le : ∀ {lo hi : List Int} {n m : Int}, n ≤ 65536 → szG lo hi n = some m → m ≤ 65536 := by
  intro lo
  induction lo with
  | nil => intro hi n m hn h; cases hi <;> (simp [szG] at h; omega)
  | cons a lo ih =>
    intro hi n m hn h
    cases hi with
    | nil => simp [szG] at h; omega
    | cons b hi =>
      simp only [szG] at h
      split at h
      · cases h
      split at h
      · cases h
      exact ih (by omega) h
/-- What the size says where it is told. -/
theorem szD_ok {lo hi : List Int} {n : Int} (h : szD lo hi = (n, 0)) : inB lo hi lo ∧ n = bxN lo hi ∧ 1 ≤ n ∧ n ≤ 65536 := by
  unfold szD at h
  split at h
  · rename_i hc
    have hB := leB_inB hc.1 hc.2
    cases hs : szG lo hi 1 with
    | none => rw [hs] at h; simp at h
    | some m =>
      rw [hs] at h
      simp at h
      subst h
      have := szG_val hs
      have hp := bxN_pos hB
      exact ⟨hB, by omega, by omega, szG_le (by omega) hs⟩
  · simp at h
/-- The error ahead of all points. -/
def okF (l : List S70) : Bool := l.all fun q => rightL (-1) q.f0.f1
def chkD (l : List S70) (lo hi : List Int) : Int := if (szD lo hi).2 = 1 then 1 else if okF l = true then (szD lo hi).2 else 1
theorem check_l0 (l : List S70) (hl : l.length ≤ 1000000) (hm : ∀ q ∈ l, q.f0.f1.length ≤ 1000000) (n e R : Int) (hne : e ≠ 0 → n = 0) (he0 : e = 0 → n ≠ 0) (hR : R = if okF l = true then e else 1) : ∀ (d i : Nat), l.length - i = d → i ≤ l.length → okF l = okF (l.drop i) →
    Ev (fun k => box_check.l0 k n e l (l.length : Int) i) R := by
  intro d
  induction d with
  | zero =>
    intro i e1 e2 e3
    rw [List.drop_eq_nil_of_le (by omega)] at e3
    rw [hR, e3, if_pos (by rfl)]
    refine Ev.succ ?_
    simp only [box_check.l0]
    refine Ev.neg (by omega) ?_
    by_cases c : e = 0
    · exact Ev.neg (he0 c) (Ev.now fun _ => by rw [c])
    · exact Ev.pos (hne c) (Ev.now fun _ => rfl)
  | succ d ih =>
    intro i e1 e2 e3
    have hi : i < l.length := by omega
    rw [List.drop_eq_getElem_cons hi] at e3
    have e3 : okF l = (rightL (-1) l[i].f0.f1 && okF (l.drop (i + 1))) := e3
    refine Ev.succ ?_
    simp only [box_check.l0]
    rw [rdI_at l i hi]
    refine Ev.pos (by omega) (Ev.pos (by omega) (Ev.pos (by omega) (Ev.bind (iRight_ev l[i].f0.f0 l[i].f0.f1 l[i].f1 (by have := hm _ (List.getElem_mem hi); omega)) ?_)))
    by_cases c : rightL (-1) l[i].f0.f1 = true
    · rw [c, Bool.true_and] at e3
      rw [if_pos c, show wrap64 ((i:Int) + 1) = ((i+1 : Nat) : Int) by rw [w64 (by omega) (by omega)]; omega]
      exact Ev.pos rfl (ih (i + 1) (by omega) (by omega) e3)
    · rw [show rightL (-1) l[i].f0.f1 = false by simpa using c, Bool.false_and] at e3
      rw [if_neg c, hR, e3]
      exact Ev.neg (by decide) (Ev.now fun _ => rfl)
theorem szD_cases (lo hi : List Int) : ((szD lo hi).2 ≠ 0 → (szD lo hi).1 = 0) ∧ ((szD lo hi).2 = 0 → (szD lo hi).1 ≠ 0) := by
  constructor
  · unfold szD
    split
    · split <;> simp
    · simp
  · intro h
    have := (szD_ok (show szD lo hi = ((szD lo hi).1, 0) by rw [← h])).2.2.1
    omega
theorem check_ev (l : List S70) (lo hi : List Int) (hl : l.length ≤ 1000000) (hm : ∀ q ∈ l, q.f0.f1.length ≤ 1000000) (hlo : lo.length ≤ 1000000) (r1 : I64 lo) (r2 : I64 hi) : Ev (fun k => box_check.f k l lo hi) (chkD l lo hi) := by
  refine Ev.bind (size_ev lo hi hlo r1 r2) ?_
  unfold chkD
  by_cases c : (szD lo hi).2 = 1
  · rw [if_pos c]
    exact Ev.pos c (Ev.now fun _ => by rw [c])
  · rw [if_neg c]
    exact Ev.neg c (check_l0 l hl hm _ _ _ (szD_cases lo hi).1 (szD_cases lo hi).2 rfl _ 0 rfl (by omega) rfl)
def allGo (x : List Int) : List S70 → Int → Int × Int
  | [], _ => (-1, 0)
  | q :: qs, i => if (holdsD q.f0.f0 q.f0.f1 q.f1 x).2 = 0 then (if (holdsD q.f0.f0 q.f0.f1 q.f1 x).1 = true then allGo x qs (i + 1) else (i, 0)) else (i, (holdsD q.f0.f0 q.f0.f1 q.f1 x).2)
def allD (l : List S70) (x : List Int) : Int × Int := allGo x l 0
section
variable (l : List S70) (hl : l.length ≤ 1000000) (hR : ∀ q ∈ l, R64 q.f0.f0 ∧ M64 q.f0.f1) (hm : ∀ q ∈ l, q.f0.f1.length ≤ 1000000)
include hl hR hm
theorem all32_l0 (x : List Int) (hx : I64 x) : ∀ (d i : Nat), l.length - i = d → i ≤ l.length → Ev (fun k => ineq_All.l0 k x l (l.length : Int) i) (allGo x (l.drop i) i) := by
  intro d
  induction d with
  | zero =>
    intro i e1 e2
    rw [List.drop_eq_nil_of_le (by omega)]
    refine Ev.succ ?_
    simp only [ineq_All.l0]
    exact Ev.neg (by omega) (Ev.now fun _ => rfl)
  | succ d ih =>
    intro i e1 e2
    have hi : i < l.length := by omega
    have hI := ih (i + 1) (by omega) (by omega)
    have hRi := hR _ (List.getElem_mem hi)
    rw [List.drop_eq_getElem_cons hi]
    refine Ev.succ ?_
    simp only [ineq_All.l0]
    rw [rdI_at l i hi, show wrap64 ((i:Int) + 1) = ((i+1 : Nat) : Int) by rw [w64 (by omega) (by omega)]; omega]
    refine Ev.pos (by omega) (Ev.pos (by omega) (Ev.pos (by omega) (Ev.bind (Holds_ev hRi.1 l[i].f0.f1 l[i].f1 x hRi.2 hx (hm _ (List.getElem_mem hi))) ?_)))
    simp only [allGo]
    by_cases c : (holdsD l[i].f0.f0 l[i].f0.f1 l[i].f1 x).2 = 0
    · by_cases c2 : (holdsD l[i].f0.f0 l[i].f0.f1 l[i].f1 x).1 = true
      · refine Ev.pos c (Ev.pos c2 (hI.val ?_))
        rw [if_pos c, if_pos c2]; simp
      · exact Ev.pos c (Ev.neg c2 (Ev.now fun _ => by rw [if_pos c, if_neg c2, c]))
    · exact Ev.neg c (Ev.now fun _ => by rw [if_neg c])
theorem all32_ev (x : List Int) (hx : I64 x) : Ev (fun k => ineq_All.f k l x) (allD l x) := by
  have := all32_l0 l hl hR hm x hx _ 0 rfl (by omega)
  rw [List.drop_zero] at this
  exact this
end
def firstD (l : List S70) : List (List Int) → List Int × Bool × Int
  | [] => ([], false, 0)
  | x :: xs => if (allD l x).2 = 0 then (if (allD l x).1 < 0 then (x, true, 0) else firstD l xs) else ([], false, (allD l x).2)
def countD (l : List S70) : List (List Int) → Int → Int × Int
  | [], c => (c, 0)
  | x :: xs, c => if (allD l x).2 = 0 then countD l xs (if (allD l x).1 < 0 then c + 1 else c) else (0, (allD l x).2)
section
variable (l : List S70) (hl : l.length ≤ 1000000) (hR : ∀ q ∈ l, R64 q.f0.f0 ∧ M64 q.f0.f1) (hm : ∀ q ∈ l, q.f0.f1.length ≤ 1000000) (lo hi : List Int) (hlo : lo.length ≤ 1000000) (r1 : I64 lo) (r2 : I64 hi)
include hl hR hm hlo r1 r2
theorem first_l0 (n : Int) : ∀ (c : Nat) (x : List Int) (j : Int), inB lo hi x → I64 x → bxC lo hi x = (c : Int) → n - j = (c : Int) → Ev (fun k => box_First.l0 k l lo hi x n j) (firstD l (ptsF lo hi c x)) := by
  intro c
  induction c with
  | zero => intro x j hB _ h1 _; have := bxC_pos hB; omega
  | succ c ih =>
    intro x j hB hx h1 h2
    obtain ⟨n1, n2⟩ := inB_len hB
    have hS := step_ev hB hx r2 (by omega)
    refine Ev.succ ?_
    simp only [box_First.l0, ptsF, firstD]
    refine Ev.pos (by omega) (Ev.bind (all32_ev l hl hR hm x hx) ?_)
    by_cases c1 : (allD l x).2 = 0
    · by_cases c2 : (allD l x).1 < 0
      · exact Ev.pos c1 (Ev.pos c2 (Ev.now fun _ => by rw [if_pos c1, if_pos c2]))
      · refine Ev.pos c1 (Ev.neg c2 (Ev.bind hS ?_))
        rw [if_pos c1, if_neg c2]
        cases hn : nxL lo hi x with
        | some y =>
          obtain ⟨g1, g2⟩ := nx_some hB hn
          exact ih y (j + 1) g1 (nx_I64 hB r1 r2 hx hn) (by omega) (by omega)
        | none =>
          have := nx_none hB hn
          refine Ev.succ ?_
          simp only [box_First.l0, firstD]
          exact Ev.neg (by omega) (Ev.now fun _ => rfl)
    · exact Ev.neg c1 (Ev.now fun _ => by rw [if_neg c1])
theorem count_l0 (n : Int) (hn6 : n ≤ 65536) : ∀ (c : Nat) (x : List Int) (j s : Int), inB lo hi x → I64 x → bxC lo hi x = (c : Int) → n - j = (c : Int) → 0 ≤ s → s + c ≤ 65536 → Ev (fun k => box_Count.l0 k l lo hi x n j s) (countD l (ptsF lo hi c x) s) := by
  intro c
  induction c with
  | zero => intro x j s hB _ h1 _ _ _; have := bxC_pos hB; omega
  | succ c ih =>
    intro x j s hB hx h1 h2 h3 h4
    obtain ⟨n1, n2⟩ := inB_len hB
    have hS := step_ev hB hx r2 (by omega)
    refine Ev.succ ?_
    simp only [box_Count.l0, ptsF, countD]
    rw [show wrap64 (s + 1) = s + 1 by rw [w64 (by omega) (by omega)]]
    refine Ev.pos (by omega) (Ev.bind (all32_ev l hl hR hm x hx) ?_)
    by_cases c1 : (allD l x).2 = 0
    · refine Ev.pos c1 (Ev.bind hS ?_)
      rw [if_pos c1]
      cases hn : nxL lo hi x with
      | some y =>
        obtain ⟨g1, g2⟩ := nx_some hB hn
        exact ih y (j + 1) _ g1 (nx_I64 hB r1 r2 hx hn) (by omega) (by omega) (by split <;> omega) (by split <;> omega)
      | none =>
        have := nx_none hB hn
        refine Ev.succ ?_
        simp only [box_Count.l0, countD]
        exact Ev.neg (by omega) (Ev.now fun _ => rfl)
    · exact Ev.neg c1 (Ev.now fun _ => by rw [if_neg c1])
/-- All the points. -/
def ptsD (lo hi : List Int) : List (List Int) := if (szD lo hi).2 = 0 then ptsF lo hi (bxN lo hi).toNat lo else []
/-- First, Count, Find. -/
theorem first32_ev (hhi : hi.length ≤ 1000000) : Ev (fun k => box_First.f k l lo hi) (if chkD l lo hi = 0 then firstD l (ptsD lo hi) else ([], false, chkD l lo hi)) := by
  refine Ev.bind (check_ev l lo hi hl hm hlo r1 r2) ?_
  by_cases c : chkD l lo hi = 0
  · refine Ev.pos c (Ev.bind (size_ev lo hi hlo r1 r2) ?_)
    have hs : (szD lo hi).2 = 0 := by
      unfold chkD at c
      split at c
      · simp at c
      split at c
      · exact c
      · simp at c
    obtain ⟨g1, g2, g3, g4⟩ := szD_ok (show szD lo hi = ((szD lo hi).1, 0) by rw [← hs])
    refine Ev.pos hs (Ev.pos g4 (Ev.pos (by omega) (Ev.pos (by omega) ?_)))
    rw [if_pos c]
    unfold ptsD
    rw [if_pos hs]
    exact first_l0 l hl hR hm lo hi hlo r1 r2 _ (bxN lo hi).toNat lo 0 g1 r1 (by rw [bxC_lo g1]; omega) (by omega)
  · exact Ev.neg c (Ev.now fun _ => by rw [if_neg c])
theorem count32_ev (hhi : hi.length ≤ 1000000) : Ev (fun k => box_Count.f k l lo hi) (if chkD l lo hi = 0 then countD l (ptsD lo hi) 0 else (0, chkD l lo hi)) := by
  refine Ev.bind (check_ev l lo hi hl hm hlo r1 r2) ?_
  by_cases c : chkD l lo hi = 0
  · refine Ev.pos c (Ev.bind (size_ev lo hi hlo r1 r2) ?_)
    have hs : (szD lo hi).2 = 0 := by
      unfold chkD at c
      split at c
      · simp at c
      split at c
      · exact c
      · simp at c
    obtain ⟨g1, g2, g3, g4⟩ := szD_ok (show szD lo hi = ((szD lo hi).1, 0) by rw [← hs])
    refine Ev.pos hs (Ev.pos g4 (Ev.pos (by omega) (Ev.pos (by omega) ?_)))
    rw [if_pos c]
    unfold ptsD
    rw [if_pos hs]
    exact count_l0 l hl hR hm lo hi hlo r1 r2 _ g4 (bxN lo hi).toNat lo 0 0 g1 r1 (by rw [bxC_lo g1]; omega) (by omega) (by omega) (by omega)
  · exact Ev.neg c (Ev.now fun _ => by rw [if_neg c])
end
theorem few_l1 (l : List S70) (lo hi : List Int) (h1 : lo.length ≤ 1000000) (most : Int) : ∀ (d i : Nat) (n : Int), lo.length - i = d → i ≤ lo.length → ∃ b, Ev (fun k => sequiturlaw32_Few.l1 k l lo hi most n i) b := by
  intro d
  induction d with
  | zero =>
    intro i n e1 e2
    by_cases c : n ≤ most
    · refine ⟨true, Ev.succ ?_⟩
      simp only [sequiturlaw32_Few.l1]
      refine Ev.neg (by omega) (Ev.succ ?_)
      simp only [sequiturlaw32_Few.j3]
      exact Ev.neg (by simp) (Ev.pos c (Ev.now fun _ => rfl))
    · refine ⟨decide (n > 65536), Ev.succ ?_⟩
      simp only [sequiturlaw32_Few.l1]
      refine Ev.neg (by omega) (Ev.succ ?_)
      simp only [sequiturlaw32_Few.j3]
      exact Ev.neg (by simp) (Ev.neg c (Ev.now fun _ => rfl))
  | succ d ih =>
    intro i n e1 e2
    have hi1 : i < lo.length := by omega
    by_cases c0 : i < hi.length
    · have key : ∃ b, Ev (fun k => if rd lo (i : Int) > rd hi (i : Int) then some true else if (IntKind.u64.wrap ((IntKind.u64.wrap (rd hi (i : Int))) - (IntKind.u64.wrap (rd lo (i : Int))))) ≥ 100000 then some (decide ((l.length : Int) ≤ 20)) else if n > 100000 then some (decide ((l.length : Int) ≤ 20)) else sequiturlaw32_Few.l1 k l lo hi most (wrap64 (n * (wrap64 ((wrap64 (IntKind.u64.wrap ((IntKind.u64.wrap (rd hi (i : Int))) - (IntKind.u64.wrap (rd lo (i : Int)))))) + 1)))) (wrap64 ((i : Int) + 1))) b := by
        rw [show wrap64 ((i:Int) + 1) = ((i+1 : Nat) : Int) by rw [w64 (by omega) (by omega)]; omega]
        by_cases c1 : rd lo (i : Int) > rd hi (i : Int)
        · exact ⟨_, Ev.pos c1 (Ev.now fun _ => rfl)⟩
        by_cases c2 : (IntKind.u64.wrap ((IntKind.u64.wrap (rd hi (i : Int))) - (IntKind.u64.wrap (rd lo (i : Int))))) ≥ 100000
        · exact ⟨_, Ev.neg c1 (Ev.pos c2 (Ev.now fun _ => rfl))⟩
        by_cases c3 : n > 100000
        · exact ⟨_, Ev.neg c1 (Ev.neg c2 (Ev.pos c3 (Ev.now fun _ => rfl)))⟩
        obtain ⟨b, hb⟩ := ih (i + 1) (wrap64 (n * (wrap64 ((wrap64 (IntKind.u64.wrap ((IntKind.u64.wrap (rd hi (i : Int))) - (IntKind.u64.wrap (rd lo (i : Int)))))) + 1)))) (by omega) (by omega)
        exact ⟨b, Ev.neg c1 (Ev.neg c2 (Ev.neg c3 hb))⟩
      obtain ⟨b, hb⟩ := key
      refine ⟨b, Ev.succ ?_⟩
      simp only [sequiturlaw32_Few.l1]
      rw [decide_eq_true (show (i : Int) < (hi.length : Int) by omega)]
      refine Ev.pos (by omega) (Ev.succ ?_)
      simp only [sequiturlaw32_Few.j3]
      exact Ev.pos trivial (Ev.pos (by omega) (Ev.pos (by omega) (Ev.pos (by omega) hb)))
    · by_cases c : n ≤ most
      · refine ⟨true, Ev.succ ?_⟩
        simp only [sequiturlaw32_Few.l1]
        rw [decide_eq_false (show ¬ (i : Int) < (hi.length : Int) by omega)]
        refine Ev.pos (by omega) (Ev.succ ?_)
        simp only [sequiturlaw32_Few.j3]
        exact Ev.neg (by simp) (Ev.pos c (Ev.now fun _ => rfl))
      · refine ⟨decide (n > 65536), Ev.succ ?_⟩
        simp only [sequiturlaw32_Few.l1]
        rw [decide_eq_false (show ¬ (i : Int) < (hi.length : Int) by omega)]
        refine Ev.pos (by omega) (Ev.succ ?_)
        simp only [sequiturlaw32_Few.j3]
        exact Ev.neg (by simp) (Ev.neg c (Ev.now fun _ => rfl))
theorem few_l0 (l : List S70) (lo hi : List Int) (hl : l.length ≤ 20) (h1 : lo.length ≤ 1000000) (most : Int) : ∀ (d i : Nat), l.length - i = d → i ≤ l.length → (∀ q ∈ l.take i, q.f0.f1.length ≤ 20) →
    ∃ b, Ev (fun k => sequiturlaw32_Few.l0 k l lo hi most l (l.length : Int) i) b ∧ (b = true → ∀ q ∈ l, q.f0.f1.length ≤ 20) := by
  intro d
  induction d with
  | zero =>
    intro i e1 e2 e3
    obtain ⟨b, hb⟩ := few_l1 l lo hi h1 most _ 0 1 rfl (by omega)
    refine ⟨b, Ev.succ ?_, fun _ => ?_⟩
    · simp only [sequiturlaw32_Few.l0]
      exact Ev.neg (by omega) hb
    · rw [List.take_of_length_le (by omega)] at e3
      exact e3
  | succ d ih =>
    intro i e1 e2 e3
    have hi' : i < l.length := by omega
    by_cases c : ((l[i].f0.f1).length : Int) > 20
    · refine ⟨false, Ev.succ ?_, fun h => by cases h⟩
      simp only [sequiturlaw32_Few.l0]
      rw [rdI_at l i hi']
      exact Ev.pos (by omega) (Ev.pos (by omega) (Ev.pos (by omega) (Ev.pos c (Ev.now fun _ => rfl))))
    · obtain ⟨b, hb, hq⟩ := ih (i + 1) (by omega) (by omega) (by
        rw [List.take_succ_eq_append_getElem hi']
        intro q hq
        rcases List.mem_append.1 hq with hq | hq
        · exact e3 q hq
        · simp at hq; subst hq; omega)
      refine ⟨b, Ev.succ ?_, hq⟩
      simp only [sequiturlaw32_Few.l0]
      rw [rdI_at l i hi', show wrap64 ((i:Int) + 1) = ((i+1 : Nat) : Int) by rw [w64 (by omega) (by omega)]; omega]
      exact Ev.pos (by omega) (Ev.pos (by omega) (Ev.pos (by omega) (Ev.neg c hb)))
theorem few_ev (l : List S70) (lo hi : List Int) (most : Int) : ∃ b, Ev (fun k => sequiturlaw32_Few.f k l lo hi most) b ∧ (b = true → l.length ≤ 20 ∧ lo.length ≤ 10 ∧ hi.length ≤ 10 ∧ ∀ q ∈ l, q.f0.f1.length ≤ 20) := by
  have hj : Ev (fun k => sequiturlaw32_Few.j0 k l lo hi most true) false := by
    refine Ev.succ ?_
    simp only [sequiturlaw32_Few.j0]
    exact Ev.pos trivial (Ev.now fun _ => rfl)
  unfold sequiturlaw32_Few.f
  by_cases c1 : (l.length : Int) > 20
  · exact ⟨false, Ev.pos c1 hj, fun h => by cases h⟩
  by_cases c2 : (lo.length : Int) > 10
  · exact ⟨false, Ev.neg c1 (Ev.pos c2 hj), fun h => by cases h⟩
  by_cases c3 : (hi.length : Int) > 10
  · refine ⟨false, Ev.neg c1 (Ev.neg c2 ?_), fun h => by cases h⟩
    rw [decide_eq_true c3]
    exact hj
  obtain ⟨b, hb, hq⟩ := few_l0 l lo hi (by omega) (by omega) most _ 0 rfl (by omega) (by simp)
  refine ⟨b, Ev.neg c1 (Ev.neg c2 ?_), fun h => ⟨by omega, by omega, by omega, hq h⟩⟩
  rw [decide_eq_false c3]
  refine Ev.succ ?_
  simp only [sequiturlaw32_Few.j0]
  exact Ev.neg (by simp) hb
theorem i64s_l0 (x : List Int) (hx : x.length ≤ 1000000) : ∀ (d i : Nat), x.length - i = d → i ≤ x.length → Ev (fun k => sequiturbase_Int64s.l0 k x x i) true := by
  intro d
  induction d with
  | zero =>
    intro i e1 e2
    refine Ev.succ ?_
    simp only [sequiturbase_Int64s.l0]
    exact Ev.neg (by omega) (Ev.now fun _ => rfl)
  | succ d ih =>
    intro i e1 e2
    have hi' : i < x.length := by omega
    refine Ev.succ ?_
    simp only [sequiturbase_Int64s.l0]
    rw [show wrap64 ((i:Int) + 1) = ((i+1 : Nat) : Int) by rw [w64 (by omega) (by omega)]; omega]
    exact Ev.pos (by omega) (Ev.pos (by omega) (Ev.pos (by omega) (Ev.pos (by trivial) (ih (i + 1) (by omega) (by omega)))))
theorem i64s_ev (x : List Int) (hx : x.length ≤ 1000000) : Ev (fun k => sequiturbase_Int64s.f k x x) true := Ev.pos rfl (i64s_l0 x hx _ 0 rfl (by omega))
theorem alive32_ev : Ev (fun k => sequiturlaw32_alive.f k) true := Ev.mono 200 sequiturlaw32_alive.mono (by decide +kernel)
open Go.ChangeShapes Go.WideShapes
theorem list_of {α : Type} (n : Nat) (p : Nat → α → Prop) (h : ∀ i, i < n → ∃ x, p i x) : ∃ l : List α, l.length = n ∧ ∀ i x, l[i]? = some x → p i x := by
  induction n with
  | zero => exact ⟨[], rfl, by simp⟩
  | succ n ih =>
    obtain ⟨l, hl, hp⟩ := ih (fun i hi => h i (by omega))
    obtain ⟨x, hx⟩ := h n (by omega)
    refine ⟨l ++ [x], by simp [hl], fun i y hy => ?_⟩
    rcases Nat.lt_or_ge i n with q | q
    · rw [List.getElem?_append_left (by omega)] at hy; exact hp i y hy
    · rw [List.getElem?_append_right (by omega)] at hy
      have : i - l.length = 0 := by
        rcases Nat.eq_zero_or_pos (i - l.length) with e | e
        · exact e
        · rw [List.getElem?_eq_none (by simp; omega)] at hy; cases hy
      rw [this] at hy
      obtain rfl : x = y := by simpa using hy
      rw [show i = n by omega]; exact hx
/-- An argument that is a slice, opened: a list of what its elements are. -/
theorem open_row {H : Type} {enc : TypeId × Value → H} {W : World} {held : Bool} {α : Type} (d : Kd α) (Q : α → Prop) {t e : TypeId} {spare : Nat → Bool} {fuel : Nat} {A : Option Addr} {n c : Nat} {x : DataW H × List MemPlace}
    (ht : Try.prog.underlying t = some (.slice e)) (hsz : Try.prog.cellsOf e = d.sz)
    (ho : ∀ m cs y, DataW.trod enc Try.prog W 0 spare held m e cs = some y → ∃ x, d.K W x cs ∧ Q x)
    (h : DataW.trod enc Try.prog W 0 spare held fuel t [.slice A n c] = some x) :
    ∃ l : List α, l.length = n ∧ n ≤ c ∧ c ≤ maxLen ∧ d.C W A n l ∧ ∀ x ∈ l, Q x := by
  rcases Go.Deep.open_slice ht h with ⟨hcs, _⟩ | ⟨a, len, cap, m, n', D, Pl, hcs, _, hl, hm, hmm, _, hi⟩
  · simp at hcs
    obtain ⟨rfl, rfl, rfl⟩ := hcs
    exact ⟨[], rfl, Nat.le_refl _, Nat.zero_le _, Kd.C_nil d W, by simp⟩
  · simp at hcs
    obtain ⟨rfl, rfl, rfl⟩ := hcs
    have hmn : n ≤ m := by rw [hmm]; split <;> omega
    obtain ⟨l, h1, h2⟩ := list_of n (fun i x => (∃ cs, cs.length = d.sz ∧ d.K W x cs ∧ ∀ j u, cs[j]? = some u → W.cell? (a.add (i * d.sz + j)) = some u) ∧ Q x) (fun i hin => by
      obtain ⟨cs, hc, hx⟩ := hi i (by omega)
      obtain ⟨x, hK, hQ⟩ := ho _ _ _ hx
      obtain ⟨_, hlen, hat⟩ := World.cells?_some hc
      refine ⟨x, ⟨cs, hlen.trans hsz, hK, fun j u hj => ?_⟩, hQ⟩
      have hjl : j < cs.length := by
        rcases Nat.lt_or_ge j cs.length with q | q
        · exact q
        · rw [List.getElem?_eq_none q] at hj; cases hj
      rw [← hj, ← hat j (by omega), hsz, Go.Deep.add_add])
    refine ⟨l, h1, hl, hm, ⟨h1, ?_, fun _ => ⟨a, rfl, fun j p hj => (h2 j p hj).1⟩⟩, fun x hx => ?_⟩
    · have : maxLen = 9223372036854775807 := rfl
      omega
    · obtain ⟨i, hi', he⟩ := List.getElem_of_mem hx
      exact (h2 i x (by rw [List.getElem?_eq_getElem hi', he])).2
theorem open_int1 {H : Type} {enc : TypeId × Value → H} {W : World} {held : Bool} {spare : Nat → Bool} {m : Nat} {e : TypeId} (hu : Try.prog.underlying e = some (.int .i64)) (cs : List Value) (y : DataW H × List MemPlace) (h : DataW.trod enc Try.prog W 0 spare held m e cs = some y) :
    ∃ x : Int, (Kd.int .i64).K W x cs ∧ (-9223372036854775808 ≤ x ∧ x ≤ 9223372036854775807) := by
  obtain ⟨n, rfl, _, hw⟩ := DataW.trod_int hu h
  exact ⟨n, rfl, wf64 hw⟩
theorem open_ints1 {H : Type} {enc : TypeId × Value → H} {W : World} {held : Bool} {spare : Nat → Bool} {fuel : Nat} {t e : TypeId} {A : Option Addr} {n c : Nat} {x : DataW H × List MemPlace} (hu : Try.prog.underlying t = some (.slice e)) (he : Try.prog.underlying e = some (.int .i64)) (hc : Try.prog.cellsOf e = 1)
    (h : DataW.trod enc Try.prog W 0 spare held fuel t [.slice A n c] = some x) :
    ∃ l : List Int, l.length = n ∧ n ≤ c ∧ c ≤ maxLen ∧ Kd.C (Kd.int .i64) W A n l ∧ I64 l :=
  open_row (Kd.int .i64) _ hu hc (fun _ cs y h => open_int1 he cs y h) h
/-- A monomial's cells. -/
theorem open_mono {H : Type} {enc : TypeId × Value → H} {W : World} {held : Bool} {spare : Nat → Bool} {m : Nat} (cs : List Value) (y : DataW H × List MemPlace) (h : DataW.trod enc Try.prog W 0 spare held m 68 cs = some y) :
    ∃ x : S68, k68.K W x cs ∧ ((-9223372036854775808 ≤ x.f0 ∧ x.f0 ≤ 9223372036854775807) ∧ -9223372036854775808 ≤ x.f1 ∧ x.f1 ≤ 9223372036854775807) := by
  obtain ⟨y0, y1, n, _, hl, h0, h1⟩ := trod_struct2 Try.underlying68 h
  have e0 : Try.prog.cellsOf 3 = 1 := by kernel_rfl
  have e1 : Try.prog.cellsOf 2 = 1 := by kernel_rfl
  have e2 : Try.prog.cellsOf 68 = 2 := by kernel_rfl
  simp only [e0, e1] at h0 h1
  rw [e2] at hl
  match cs, hl with
  | [c0, c1], _ =>
    obtain ⟨a, ha, _, hw⟩ := DataW.trod_int Try.underlying3 h0
    obtain ⟨b, hb, _, hw2⟩ := DataW.trod_int Try.underlying2 h1
    simp at ha hb
    subst ha hb
    exact ⟨⟨a, b⟩, k68_mk W ⟨a, b⟩, wf64 hw, wf64 hw2⟩
/-- A form's cells. -/
theorem open_lin {H : Type} {enc : TypeId × Value → H} {W : World} {held : Bool} {spare : Nat → Bool} {m : Nat} (cs : List Value) (y : DataW H × List MemPlace) (h : DataW.trod enc Try.prog W 0 spare held m 62 cs = some y) :
    ∃ (x : S62) (A : Option Addr) (c : Nat), cs = [.int .i64 x.f0, .slice A x.f1.length c] ∧ x.f1.length ≤ c ∧ c ≤ maxLen ∧ Kd.C k68 W A x.f1.length x.f1 ∧ R64 x.f0 ∧ M64 x.f1 := by
  obtain ⟨y0, y1, n, _, hl, h0, h1⟩ := trod_struct2 Try.underlying62 h
  have e1 : Try.prog.cellsOf 2 = 1 := by kernel_rfl
  have e0 : Try.prog.cellsOf 60 = 1 := by kernel_rfl
  have e2 : Try.prog.cellsOf 62 = 2 := by kernel_rfl
  simp only [e0, e1] at h0 h1
  rw [e2] at hl
  match cs, hl with
  | [c0, c1], _ =>
    obtain ⟨a, ha, _, hw⟩ := DataW.trod_int Try.underlying2 h0
    simp at ha
    subst ha
    have h2 : DataW.trod enc Try.prog W 0 spare held n 60 [c1] = some y1 := h1
    have hs : ∃ A n c, c1 = .slice A n c := by
      rcases Go.Deep.open_slice Try.underlying60 h2 with ⟨hcs, _⟩ | ⟨a, len, cap, m, n', D, Pl, hcs, _⟩
      · simp at hcs; exact ⟨_, _, _, hcs⟩
      · simp at hcs; exact ⟨_, _, _, hcs⟩
    obtain ⟨A, len, c, rfl⟩ := hs
    obtain ⟨l, rfl, hc, hm, hC, hQ⟩ := open_row k68 _ Try.underlying60 (by kernel_rfl) (fun _ cs y h => open_mono cs y h) h2
    exact ⟨⟨a, l⟩, A, c, rfl, hc, hm, hC, wf64 hw, hQ⟩
/-- An inequality's cells. -/
theorem open_ineq {H : Type} {enc : TypeId × Value → H} {W : World} {held : Bool} {spare : Nat → Bool} {m : Nat} (cs : List Value) (y : DataW H × List MemPlace) (h : DataW.trod enc Try.prog W 0 spare held m 70 cs = some y) :
    ∃ (x : S70) (A : Option Addr) (c : Nat), cs = [.int .i64 x.f0.f0, .slice A x.f0.f1.length c, .bool x.f1] ∧ x.f0.f1.length ≤ c ∧ c ≤ maxLen ∧ Kd.C k68 W A x.f0.f1.length x.f0.f1 ∧ R64 x.f0.f0 ∧ M64 x.f0.f1 := by
  obtain ⟨y0, y1, n, _, hl, h0, h1⟩ := trod_struct2 Try.underlying70 h
  have e1 : Try.prog.cellsOf 4 = 1 := by kernel_rfl
  have e0 : Try.prog.cellsOf 62 = 2 := by kernel_rfl
  have e2 : Try.prog.cellsOf 70 = 3 := by kernel_rfl
  simp only [e0, e1] at h0 h1
  rw [e2] at hl
  match cs, hl with
  | [c0, c1, c2], _ =>
    obtain ⟨b, hb, _⟩ := DataW.trod_bool Try.underlying4 h1
    simp at hb
    subst hb
    obtain ⟨x, A, c, hcs, hc, hm, hC, hr, hM⟩ := open_lin _ _ h0
    simp at hcs
    obtain ⟨rfl, rfl⟩ := hcs
    exact ⟨⟨x, b⟩, A, c, rfl, hc, hm, hC, hr, hM⟩
def Q30 (x : S70) : Prop := R64 x.f0.f0 ∧ M64 x.f0.f1 ∧ x.f0.f1.length ≤ maxLen
theorem open_ineqK {H : Type} {enc : TypeId × Value → H} {W : World} {held : Bool} {spare : Nat → Bool} {m : Nat} (cs : List Value) (y : DataW H × List MemPlace) (h : DataW.trod enc Try.prog W 0 spare held m 70 cs = some y) :
    ∃ x : S70, k70.K W x cs ∧ Q30 x := by
  obtain ⟨x, A, c, rfl, hc, hm, hC, hr, hM⟩ := open_ineq cs y h
  exact ⟨x, k70_mk W x hc hC, hr, hM, Nat.le_trans hc hm⟩
theorem aliveT_ev : Ev (fun k => aliveT k) true := Ev.bind alive32_ev (Ev.pos rfl (Ev.now fun _ => rfl))
theorem firstD_err (l : List S70) : ∀ L, (firstD l L).2.2 ≠ 0 → (firstD l L).1 = [] ∧ (firstD l L).2.1 = false := by
  intro L
  induction L with
  | nil => intro h; exact absurd rfl h
  | cons x xs ih =>
    have e : firstD l (x :: xs) = if (allD l x).2 = 0 then (if (allD l x).1 < 0 then (x, true, 0) else firstD l xs) else ([], false, (allD l x).2) := rfl
    rw [e]
    by_cases c1 : (allD l x).2 = 0
    · by_cases c2 : (allD l x).1 < 0
      · rw [if_pos c1, if_pos c2]; intro h; exact absurd rfl h
      · rw [if_pos c1, if_neg c2]; exact ih
    · rw [if_neg c1]; intro _; exact ⟨rfl, rfl⟩
section
variable (l : List S70) (hl : l.length ≤ 1000000) (hR : ∀ q ∈ l, R64 q.f0.f0 ∧ M64 q.f0.f1) (hm : ∀ q ∈ l, q.f0.f1.length ≤ 1000000) (lo hi : List Int) (hlo : lo.length ≤ 1000000) (r1 : I64 lo) (r2 : I64 hi)
include hl hR hm hlo r1 r2
/-- What the law's rounds keep: how many held; whether one did. -/
def KeepF (l : List S70) (X : List Int) (ok : Bool) (CT : Int × Int) (L : List (List Int)) (c : Int) (b : Bool) : Prop :=
  CT = countD l L c ∧ (b = true → c = 0 ∧ firstD l L = (X, ok, 0)) ∧ (b = false → ok = true ∧ 1 ≤ c)
theorem law_end (hhi : hi.length ≤ 1000000) (hc : chkD l lo hi = 0) (X : List Int) (ok : Bool) (n j c : Int) (b : Bool) (x : List Int) (hj : ¬ j < n) (hk : KeepF l X ok (countD l (ptsD lo hi) 0) [] c b) :
    Ev (fun k => sequiturlaw32_BoxFirst.l0 k l lo hi X ok x n j c b) true := by
  obtain ⟨h1, h2, h3⟩ := hk
  have hC := count32_ev l hl hR hm lo hi hlo r1 r2 hhi
  rw [if_pos hc, h1] at hC
  refine Ev.succ ?_
  simp only [sequiturlaw32_BoxFirst.l0]
  refine Ev.neg hj (Ev.bind hC (Ev.pos ?_ (Ev.pos rfl (Ev.pos rfl aliveT_ev))))
  cases b with
  | true =>
    obtain ⟨g1, g2⟩ := h2 rfl
    have : ok = false := by simp [firstD] at g2; exact g2.2
    rw [this, g1]; rfl
  | false =>
    obtain ⟨g1, g2⟩ := h3 rfl
    rw [g1, decide_eq_true (show 0 < c by omega)]
theorem law_l0 (hhi : hi.length ≤ 1000000) (hc : chkD l lo hi = 0) (X : List Int) (hX : X.length ≤ 1000000) (ok : Bool) (n : Int) : ∀ (m : Nat) (x : List Int) (j c : Int) (b : Bool), inB lo hi x → I64 x → bxC lo hi x = (m : Int) → n - j = (m : Int) → 0 ≤ c → c + m ≤ 65536 → KeepF l X ok (countD l (ptsD lo hi) 0) (ptsF lo hi m x) c b →
    Ev (fun k => sequiturlaw32_BoxFirst.l0 k l lo hi X ok x n j c b) true := by
  intro m
  induction m with
  | zero => intro x j c b hB _ h1 _ _ _ _; have := bxC_pos hB; omega
  | succ m ih =>
    intro x j c b hB hx h1 h2 h3 h4 hk
    obtain ⟨n1, n2⟩ := inB_len hB
    have hS := step_ev hB hx r2 (by omega)
    have hE := law_end l hl hR hm lo hi hlo r1 r2 hhi hc X ok n (j + 1)
    obtain ⟨rest, hrest⟩ : ∃ rest, rest = (match nxL lo hi x with | some y => ptsF lo hi m y | none => []) := ⟨_, rfl⟩
    have hL : ptsF lo hi (m + 1) x = x :: rest := by rw [hrest]; rfl
    rw [hL] at hk
    obtain ⟨k1, k2, k3⟩ := hk
    have e1 : firstD l (x :: rest) = if (allD l x).2 = 0 then (if (allD l x).1 < 0 then (x, true, 0) else firstD l rest) else ([], false, (allD l x).2) := rfl
    have e2 : countD l (x :: rest) c = if (allD l x).2 = 0 then countD l rest (if (allD l x).1 < 0 then c + 1 else c) else (0, (allD l x).2) := rfl
    -- the next round
    have hgo : ∀ (c' : Int) (b' : Bool), 0 ≤ c' → c' + m ≤ 65536 → KeepF l X ok (countD l (ptsD lo hi) 0) rest c' b' → Ev (fun k => (box_step.f k lo hi x).bind fun y => sequiturlaw32_BoxFirst.l0 k l lo hi X ok y n (j + 1) c' b') true := by
      intro c' b' g1 g2 g3
      refine Ev.bind hS ?_
      cases hn : nxL lo hi x with
      | some y =>
        rw [hn] at hrest
        obtain ⟨f1, f2⟩ := nx_some hB hn
        exact ih y (j + 1) c' b' f1 (nx_I64 hB r1 r2 hx hn) (by omega) (by omega) g1 g2 (by have hr : rest = ptsF lo hi m y := hrest; rw [← hr]; exact g3)
      | none =>
        rw [hn] at hrest
        have := nx_none hB hn
        exact hE c' b' _ (by omega) (by have hr : rest = [] := hrest; rw [← hr]; exact g3)
    refine Ev.succ ?_
    simp only [sequiturlaw32_BoxFirst.l0]
    rw [show wrap64 (c + 1) = c + 1 by rw [w64 (by omega) (by omega)]]
    refine Ev.pos (by omega) (Ev.bind (all32_ev l hl hR hm x hx) ?_)
    by_cases c1 : (allD l x).2 = 0
    · rw [if_pos c1] at e1 e2
      refine Ev.pos c1 ?_
      by_cases c2 : (allD l x).1 ≥ 0
      · rw [if_neg (by omega)] at e1 e2
        exact Ev.pos c2 (hgo c b h3 (by omega) ⟨by rw [k1, e2], fun h => ⟨(k2 h).1, by rw [← e1]; exact (k2 h).2⟩, k3⟩)
      · rw [if_pos (by omega)] at e1 e2
        refine Ev.neg c2 ?_
        cases b with
        | true =>
          obtain ⟨g1, g2⟩ := k2 rfl
          rw [e1] at g2
          simp only [Prod.mk.injEq] at g2
          obtain ⟨rfl, rfl, _⟩ := g2
          refine Ev.pos rfl (Ev.pos rfl (Ev.bind (i64s_ev x (by omega)) (Ev.pos rfl ?_)))
          exact hgo (c + 1) false (by omega) (by omega) ⟨by rw [k1, e2], (fun h => by cases h), fun _ => ⟨rfl, by omega⟩⟩
        | false =>
          obtain ⟨g1, g2⟩ := k3 rfl
          exact Ev.neg (by decide) (hgo (c + 1) false (by omega) (by omega) ⟨by rw [k1, e2], (fun h => by cases h), fun _ => ⟨g1, by omega⟩⟩)
    · rw [if_neg c1] at e1
      refine Ev.neg c1 ?_
      cases b with
      | true =>
        obtain ⟨g1, g2⟩ := k2 rfl
        rw [e1] at g2
        simp only [Prod.mk.injEq] at g2
        exact absurd g2.2.2 c1
      | false =>
        obtain ⟨g1, g2⟩ := k3 rfl
        exact Ev.pos g1 (Ev.pos rfl aliveT_ev)
end
theorem firstD_len (l : List S70) (m : Nat) : ∀ L : List (List Int), (∀ x ∈ L, x.length ≤ m) → (firstD l L).1.length ≤ m := by
  intro L
  induction L with
  | nil => intro _; simp [firstD]
  | cons x xs ih =>
    intro h
    simp only [firstD]
    split
    · split
      · exact h x (List.mem_cons_self ..)
      · exact ih (fun y hy => h y (List.mem_cons_of_mem _ hy))
    · simp
theorem ptsF_lens (lo hi : List Int) : ∀ (c : Nat) (x : List Int), inB lo hi x → ∀ y ∈ ptsF lo hi c x, y.length ≤ hi.length := by
  intro c
  induction c with
  | zero => intro x _ y hy; simp [ptsF] at hy
  | succ c ih =>
    intro x hB y hy
    simp only [ptsF] at hy
    rcases List.mem_cons.1 hy with rfl | hy
    · exact Nat.le_of_eq (inB_len hB).2
    · cases hn : nxL lo hi x with
      | some z => rw [hn] at hy; exact ih z (nx_some hB hn).1 y hy
      | none => rw [hn] at hy; simp at hy
theorem BoxFirst_pure (l : List S70) (lo hi : List Int) (hQ : ∀ q ∈ l, R64 q.f0.f0 ∧ M64 q.f0.f1) (r1 : I64 lo) (r2 : I64 hi) : ∃ k, sequiturlaw32_BoxFirst.f k l lo hi = some true := by
  obtain ⟨b, hb, hp⟩ := few_ev l lo hi 500
  refine Ev.at_ (f := fun k => sequiturlaw32_BoxFirst.f k l lo hi) (Ev.bind aliveT_ev (Ev.bind hb ?_))
  by_cases cb : b = true
  · obtain ⟨n1, n2, n3, n4⟩ := hp cb
    have hm : ∀ q ∈ l, q.f0.f1.length ≤ 1000000 := fun q hq => by have := n4 q hq; omega
    refine Ev.pos cb (Ev.bind (first32_ev l (by omega) hQ hm lo hi (by omega) r1 r2 (by omega)) ?_)
    by_cases c : chkD l lo hi = 0
    · rw [if_pos c]
      by_cases ce : (firstD l (ptsD lo hi)).2.2 = 0
      · refine Ev.pos ce (Ev.bind (size_ev lo hi (by omega) r1 r2) ?_)
        have hs : (szD lo hi).2 = 0 := by
          unfold chkD at c
          split at c
          · simp at c
          split at c
          · exact c
          · simp at c
        obtain ⟨g1, g2, g3, g4⟩ := szD_ok (show szD lo hi = ((szD lo hi).1, 0) by rw [← hs])
        have hpt : ptsD lo hi = ptsF lo hi (bxN lo hi).toNat lo := by unfold ptsD; rw [if_pos hs]
        have hX : (firstD l (ptsD lo hi)).1.length ≤ 1000000 := by
          have := firstD_len l hi.length (ptsD lo hi) (by rw [hpt]; exact ptsF_lens lo hi _ _ g1)
          omega
        refine Ev.pos ⟨hs, g4, by omega, by omega⟩ ?_
        refine law_l0 l (by omega) hQ hm lo hi (by omega) r1 r2 (by omega) c _ hX _ _ (bxN lo hi).toNat lo 0 0 true g1 r1 (by rw [bxC_lo g1]; omega) (by omega) (by omega) (by omega) ⟨by rw [hpt], fun _ => ⟨rfl, ?_⟩, fun h => by cases h⟩
        rw [← hpt, ← ce]
      · obtain ⟨g1, g2⟩ := firstD_err l _ ce
        exact Ev.neg ce (Ev.pos ⟨g1, g2⟩ aliveT_ev)
    · rw [if_neg c]
      exact Ev.neg c (Ev.pos ⟨rfl, rfl⟩ aliveT_ev)
  · exact Ev.neg cb aliveT_ev
end Go.Proofs.Ytkfbfgkdabljiaa.Pure
