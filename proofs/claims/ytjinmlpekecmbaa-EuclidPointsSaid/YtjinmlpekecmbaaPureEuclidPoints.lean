/- The point of any parameters, or the error, is what its forms say, one by one (asked of at most 80 forms of at most 80 monomials, at most 100 numbers). -/
import Derived.Test.YtjinmlpekecmbaaPEuclidPointsx
import Derived.Laws.BitsAllLaws
import Derived.Deep.Slices
import Derived.ChangeSame
import Derived.KernelRfl
import Derived.OpenShut
namespace Go.Proofs.Ytjinmlpekecmbaa.Pure
open Go.RowKit Go.Proofs.Ytjinmlpekecmbaa.PEuclidPoints Go.Proofs.YtjinmlpekecmbaaW.PrintWords Go.Proofs.YtjinmlpekecmbaaW.PrintLast
set_option linter.unusedVariables false
set_option linter.unusedSimpArgs false
theorem abs_mul_lt {a b : Int} (h1 : -9223372036854775808 ≤ a) (h2 : a ≤ 9223372036854775807) (h3 : -9223372036854775808 ≤ b) (h4 : b ≤ 9223372036854775807) : a.natAbs * b.natAbs ≤ 85070591730234615865843651857942052864 :=
  Nat.le_trans (Nat.mul_le_mul (show a.natAbs ≤ 9223372036854775808 by omega) (show b.natAbs ≤ 9223372036854775808 by omega)) (by decide)
-- one round of the halving: x odd, y = 2^t * z, z odd
theorem wf64 {a : Int} (h : (Lit.int .i64 a).wf = true) : -9223372036854775808 ≤ a ∧ a ≤ 9223372036854775807 := by
  simpa [Lit.wf, IntKind.min, IntKind.max, IntKind.signed, IntKind.bits] using h
theorem w64 {n : Int} (h1 : -9223372036854775808 ≤ n) (h2 : n ≤ 9223372036854775807) : wrap64 n = n := by
  unfold wrap64; omega
def I64 (l : List Int) : Prop := ∀ x ∈ l, -9223372036854775808 ≤ x ∧ x ≤ 9223372036854775807
/-- At all great fuels the same answer. -/
def Ev {α : Type} (f : Nat → Option α) (v : α) : Prop := ∃ K, ∀ k, K ≤ k → f k = some v
theorem Ev.now {α : Type} {f : Nat → Option α} {v : α} (h : ∀ k, f k = some v) : Ev f v := ⟨0, fun k _ => h k⟩
theorem Ev.succ {α : Type} {f : Nat → Option α} {v : α} (h : Ev (fun k => f (k + 1)) v) : Ev f v := by
  obtain ⟨K, h⟩ := h
  refine ⟨K + 1, fun k hk => ?_⟩
  obtain ⟨m, rfl⟩ : ∃ m, k = m + 1 := ⟨k - 1, by omega⟩
  exact h m (by omega)
theorem Ev.bind {α β : Type} {f : Nat → Option α} {g : Nat → α → Option β} {v : α} {u : β} (h : Ev f v) (h2 : Ev (fun k => g k v) u) : Ev (fun k => (f k).bind (g k)) u := by
  obtain ⟨K, h⟩ := h
  obtain ⟨K2, h2⟩ := h2
  refine ⟨max K K2, fun k hk => ?_⟩
  show (f k).bind (g k) = some u
  rw [h k (by omega)]
  exact h2 k (by omega)
theorem Ev.of {α : Type} {f g : Nat → Option α} {v : α} (h : Ev f v) (e : ∀ k, g k = f k) : Ev g v := by
  obtain ⟨K, h⟩ := h
  exact ⟨K, fun k hk => (e k).trans (h k hk)⟩
theorem Ev.at_ {α : Type} {f : Nat → Option α} {v : α} (h : Ev f v) : ∃ k, f k = some v := by
  obtain ⟨K, h⟩ := h
  exact ⟨K, h K (Nat.le_refl _)⟩
theorem Ev.mono {α : Type} {f : Nat → Option α} {v : α} (K : Nat) (hm : ∀ k, LeO (f k) (f (k + 1))) (h : f K = some v) : Ev f v := by
  refine ⟨K, fun k hk => ?_⟩
  obtain ⟨d, rfl⟩ := Nat.exists_eq_add_of_le hk
  induction d with
  | zero => exact h
  | succ d ih => exact hm (K + d) v (ih (by omega))
theorem Ev.val {α : Type} {f : Nat → Option α} {v u : α} (h : Ev f v) (e : v = u) : Ev f u := e ▸ h
theorem Ev.pos {α : Type} {c : Prop} [Decidable c] {f g : Nat → Option α} {v : α} (h : c) (hf : Ev f v) : Ev (fun k => if c then f k else g k) v := hf.of fun k => if_pos h
theorem Ev.neg {α : Type} {c : Prop} [Decidable c] {f g : Nat → Option α} {v : α} (h : ¬ c) (hf : Ev g v) : Ev (fun k => if c then f k else g k) v := hf.of fun k => if_neg h
theorem rdM_at (l : List S44) (i : Nat) (h : i < l.length) : rd_T44 l (i:Int) = l[i] := by simp [rd_T44, h]
theorem rdQ_at (l : List S41) (i : Nat) (h : i < l.length) : rd_T41 l (i:Int) = l[i] := by simp [rd_T41, h]
/-- Are the variables in order, of the 64, and no factor zero? -/
def rightL : Int → List S44 → Bool
  | _, [] => true
  | last, m :: l => decide (last < m.f0) && decide (m.f0 < 64) && decide (m.f1 ≠ 0) && rightL m.f0 l
theorem Right_l0 (l : List S44) (hl : l.length ≤ 9223372036854775807) : ∀ (d i : Nat) (last : Int), l.length - i = d → i ≤ l.length →
    Ev (fun k => lin_Right.l0 k last l (l.length:Int) i) (if rightL last (l.drop i) = true then 0 else 1) := by
  intro d
  induction d with
  | zero =>
    intro i last h1 h2
    refine Ev.succ (Ev.now fun k => ?_)
    simp only [lin_Right.l0]
    rw [if_neg (by omega), List.drop_eq_nil_of_le (by omega)]; rfl
  | succ d ih =>
    intro i last h1 h2
    have hi : i < l.length := by omega
    rw [List.drop_eq_getElem_cons hi]
    by_cases e : last < l[i].f0 ∧ l[i].f0 < 64 ∧ l[i].f1 ≠ 0
    · obtain ⟨e1, e2, e3⟩ := e
      refine Ev.succ (Ev.of (ih (i+1) l[i].f0 (by omega) (by omega)) fun k => ?_) |>.val ?_
      · simp only [lin_Right.l0]
        rw [if_pos (by omega), if_pos (by omega), if_pos (by omega), rdM_at l i hi, if_neg (by omega), if_neg (by omega), if_neg e3, w64 (by omega) (by omega)]; rfl
      · simp only [rightL, decide_eq_true e1, decide_eq_true e2, decide_eq_true e3, Bool.true_and]
    · refine Ev.succ (Ev.now fun k => ?_)
      have hr : rightL last (l[i] :: l.drop (i+1)) = false := by
        simp only [rightL, Bool.and_eq_false_iff, decide_eq_false_iff_not]
        omega
      rw [hr]
      simp only [lin_Right.l0]
      rw [if_pos (by omega), if_pos (by omega), if_pos (by omega), rdM_at l i hi]
      by_cases e1 : l[i].f0 ≤ last
      · rw [if_pos e1]; rfl
      by_cases e2 : l[i].f0 ≥ 64
      · rw [if_neg e1, if_pos e2]; rfl
      · rw [if_neg e1, if_neg e2, if_pos (by omega)]; rfl
theorem Right_ev (K : Int) (l : List S44) (hl : l.length ≤ 9223372036854775807) : Ev (fun k => lin_Right.f k K l) (if rightL (-1) l = true then 0 else 1) := by
  have := Right_l0 l hl _ 0 (-1) rfl (by omega)
  exact this
theorem right1_ev (K : Int) (l : List S44) (hl : l.length ≤ 9223372036854775807) : Ev (fun k => lin_right_1.f k K l) (!rightL (-1) l) :=
  Ev.bind (Right_ev K l hl) (Ev.now fun _ => by cases rightL (-1) l <;> rfl)
theorem idx_l0 (l : List S41) (hl : l.length ≤ 9223372036854775807) (hm : ∀ q ∈ l, q.f1.length ≤ 9223372036854775807) : ∀ (d i : Nat), l.length - i = d → i ≤ l.length →
    ∃ v, Ev (fun k => api_Lin_66.l0 k l (l.length:Int) i) v ∧ decide (v ≥ 0) = !((l.drop i).all fun q => rightL (-1) q.f1) := by
  intro d
  induction d with
  | zero =>
    intro i h1 h2
    refine ⟨-1, Ev.succ (Ev.now fun k => ?_), ?_⟩
    · simp only [api_Lin_66.l0]
      rw [if_neg (by omega)]
    · rw [List.drop_eq_nil_of_le (by omega)]; rfl
  | succ d ih =>
    intro i h1 h2
    have hi : i < l.length := by omega
    rw [List.drop_eq_getElem_cons hi]
    have hq := right1_ev l[i].f0 l[i].f1 (hm _ (List.getElem_mem hi))
    obtain ⟨v, ev, hv⟩ := ih (i+1) (by omega) (by omega)
    have hs : ∀ k, api_Lin_66.l0 (k+1) l (l.length:Int) i = (lin_right_1.f k l[i].f0 l[i].f1).bind fun t => if t = true then some (i:Int) else api_Lin_66.l0 k l (l.length:Int) ((i+1 : Nat) : Int) := by
      intro k
      simp only [api_Lin_66.l0]
      rw [if_pos (by omega), if_pos (by omega), if_pos (by omega), rdQ_at l i hi, w64 (by omega) (by omega)]; rfl
    by_cases e : rightL (-1) l[i].f1 = true
    · rw [e] at hq
      refine ⟨v, Ev.succ (Ev.of (Ev.bind hq ?_) hs), ?_⟩
      · exact Ev.of ev fun k => by simp
      · rw [hv, List.all_cons, e, Bool.true_and]
    · have e' : rightL (-1) l[i].f1 = false := by simpa using e
      rw [e'] at hq
      refine ⟨i, Ev.succ (Ev.of (Ev.bind hq ?_) hs), ?_⟩
      · exact Ev.now fun k => by simp
      · rw [List.all_cons, e']; simp
theorem linright_ev (l : List S41) (hl : l.length ≤ 9223372036854775807) (hm : ∀ q ∈ l, q.f1.length ≤ 9223372036854775807) : Ev (fun k => lin_right.f k l) (l.all fun q => rightL (-1) q.f1) := by
  obtain ⟨v, ev, hv⟩ := idx_l0 l hl hm _ 0 rfl (by omega)
  rw [List.drop_zero] at hv
  refine Ev.bind (v := decide (v ≥ 0)) (Ev.bind ev (Ev.now fun _ => rfl)) (Ev.now fun _ => ?_)
  rw [hv]; simp
theorem rightL_mem : ∀ (l : List S44) (last : Int), rightL last l = true → ∀ m ∈ l, last < m.f0 ∧ m.f0 < 64 ∧ m.f1 ≠ 0 := by
  intro l
  induction l with
  | nil => intro last _ m hm; cases hm
  | cons a l ih =>
    intro last h m hm
    simp only [rightL, Bool.and_eq_true, decide_eq_true_eq] at h
    rcases List.mem_cons.1 hm with e | e
    · subst e; exact ⟨h.1.1.1, h.1.1.2, h.1.2⟩
    · have := ih a.f0 h.2 m e; omega
theorem rightL_len : ∀ (l : List S44) (last : Int), last ≤ 63 → rightL last l = true → (l.length : Int) ≤ 63 - last := by
  intro l
  induction l with
  | nil => intro last h _; simp; omega
  | cons a l ih =>
    intro last h0 h
    simp only [rightL, Bool.and_eq_true, decide_eq_true_eq] at h
    have := ih a.f0 (by omega) h.2
    simp only [List.length_cons]; omega
/-- The monomials' ranges. -/
def M64 (l : List S44) : Prop := ∀ m ∈ l, (-9223372036854775808 ≤ m.f0 ∧ m.f0 ≤ 9223372036854775807) ∧ -9223372036854775808 ≤ m.f1 ∧ m.f1 ≤ 9223372036854775807
def R64 (n : Int) : Prop := -9223372036854775808 ≤ n ∧ n ≤ 9223372036854775807
theorem in64_of {n : Int} (h : R64 n) : in64 n = true := by
  simp only [in64, Bool.and_eq_true, decide_eq_true_eq]; exact h
theorem rd_R64 {x : List Int} (hx : I64 x) (i : Int) : R64 (rd x i) := by
  unfold rd
  by_cases h : i.toNat < x.length
  · rw [List.getD_eq_getElem?_getD, List.getElem?_eq_getElem h]; exact hx _ (List.getElem_mem h)
  · rw [List.getD_eq_getElem?_getD, List.getElem?_eq_none (by omega)]; exact ⟨by simp, by simp⟩
theorem mul_R64 {a b : Int} (ha : R64 a) (hb : R64 b) : -85070591730234615865843651857942052864 ≤ a * b ∧ a * b ≤ 85070591730234615865843651857942052864 := by
  have h := abs_mul_lt ha.1 ha.2 hb.1 hb.2
  rw [← Int.natAbs_mul] at h
  omega
theorem wrap192_id {s : Int} (h1 : -3138550867693340381917894711603833208051177722232017256448 ≤ s) (h2 : s < 3138550867693340381917894711603833208051177722232017256448) : wrap192 s = s := by
  unfold wrap192; omega
instance instR64 (n : Int) : Decidable (R64 n) := inferInstanceAs (Decidable (_ ∧ _))
theorem evalFold_le (x : List Int) (hx : I64 x) : ∀ (l : List S44) (s : Int), M64 l →
    s - l.length * 85070591730234615865843651857942052864 ≤ l.foldl (evalStep x) s ∧ l.foldl (evalStep x) s ≤ s + l.length * 85070591730234615865843651857942052864 := by
  intro l
  induction l with
  | nil => intro s _; simp
  | cons a l ih =>
    intro s h
    have h1 := ih (evalStep x s a) (fun m hm => h m (List.mem_cons_of_mem _ hm))
    have h2 := mul_R64 (h a (List.mem_cons_self ..)).2 (rd_R64 hx a.f0)
    have h3 : s - 85070591730234615865843651857942052864 ≤ evalStep x s a ∧ evalStep x s a ≤ s + 85070591730234615865843651857942052864 := by
      unfold evalStep; split <;> omega
    simp only [List.foldl_cons, List.length_cons]
    omega
theorem evalSum_le (K : Int) (l : List S44) (x : List Int) (hK : R64 K) (hl : M64 l) (hx : I64 x) (hr : rightL (-1) l = true) :
    -3138550867693340381917894711603833208051177722232017256448 ≤ evalSum K l x ∧ evalSum K l x < 3138550867693340381917894711603833208051177722232017256448 := by
  have h := evalFold_le x hx l (0 + K * 1) hl
  have h2 := rightL_len l (-1) (by omega) hr
  unfold evalSum
  have := hK.1
  have := hK.2
  omega
theorem Eval_ev (K : Int) (l : List S44) (x : List Int) (hK : R64 K) (hl : M64 l) (hx : I64 x) (hlen : l.length ≤ 9223372036854775807) :
    Ev (fun k => lin_Eval.f k K l x) (if rightL (-1) l = true then (if (fit64 (evalSum K l x)).2 = true then ((fit64 (evalSum K l x)).1, 0) else (0, 5)) else (0, 1)) := by
  have h := linright_ev [⟨K, l⟩] (by simp) (by intro q hq; simp at hq; subst hq; exact hlen)
  refine Ev.bind h (Ev.now fun _ => ?_)
  simp only [List.all_cons, List.all_nil, Bool.and_true]
  by_cases e : rightL (-1) l = true
  · rw [if_pos e, if_pos e]
    have hb := evalSum_le K l x hK hl hx e
    have hok : (in64 K && l.all (evalOk x)) = true := by
      rw [in64_of hK, Bool.true_and, List.all_eq_true]
      intro m hm
      have := (rightL_mem l (-1) e m hm).1
      simp only [evalOk, Bool.and_eq_true, Bool.or_eq_true, decide_eq_true_eq]
      exact ⟨by omega, .inr ⟨in64_of (hl m hm).2, in64_of (rd_R64 hx _)⟩⟩
    rw [if_pos hok]
    unfold fit192
    rw [wrap192_id hb.1 hb.2]
  · rw [if_neg e, if_neg e]
def fewD (l : List S41) : Bool := if (l.length : Int) > 80 then false else l.all fun q => decide (q.f1.length ≤ 80)
theorem few_l0 (l : List S41) (hlen : l.length ≤ 1000000) : ∀ (n i : Nat), l.length - i = n → i ≤ l.length → Ev (fun k => sequiturlaw29_few.l0 k l (l.length : Int) i) ((l.drop i).all fun q => decide (q.f1.length ≤ 80)) := by
  intro n
  induction n with
  | zero =>
    intro i h1 h2
    refine Ev.succ (Ev.now fun k => ?_)
    simp only [sequiturlaw29_few.l0]
    rw [if_neg (by omega), List.drop_eq_nil_of_le (by omega)]; rfl
  | succ n ih =>
    intro i h1 h2
    have hi : i < l.length := by omega
    rw [List.drop_eq_getElem_cons hi, List.all_cons]
    refine Ev.succ ?_
    simp only [sequiturlaw29_few.l0]
    rw [rdQ_at l i hi]
    refine Ev.pos (by omega) (Ev.pos (by omega) (Ev.pos (by omega) ?_))
    by_cases e : l[i].f1.length ≤ 80
    · refine Ev.neg (by omega) (((ih (i+1) (by omega) (by omega)).of fun k => ?_).val ?_)
      · rw [w64 (by omega) (by omega)]; rfl
      · rw [decide_eq_true e, Bool.true_and]
    · refine Ev.pos (by omega) (Ev.now fun _ => ?_)
      rw [decide_eq_false e]; rfl
theorem few_ev (l : List S41) : Ev (fun k => sequiturlaw29_few.f k l) (fewD l) := by
  unfold fewD
  by_cases e : (l.length : Int) > 80
  · rw [if_pos e]
    exact Ev.pos e (Ev.now fun _ => rfl)
  · rw [if_neg e]
    refine Ev.neg e ((few_l0 l (by omega) _ 0 rfl (by omega)).val ?_)
    rw [List.drop_zero]
theorem few_is {l : List S41} (h : fewD l = true) : l.length ≤ 80 ∧ ∀ q ∈ l, q.f1.length ≤ 80 := by
  unfold fewD at h
  split at h
  · cases h
  · rename_i e
    exact ⟨by omega, fun q hq => by simpa using List.all_eq_true.1 h q hq⟩
theorem i64s_l0 (x : List Int) (hx : x.length ≤ 1000000) : ∀ (d i : Nat), x.length - i = d → i ≤ x.length → Ev (fun k => sequiturbase_Int64s.l0 k x x i) true := by
  intro d
  induction d with
  | zero =>
    intro i e1 e2
    refine Ev.succ ?_
    simp only [sequiturbase_Int64s.l0]
    exact Ev.neg (by omega) (Ev.now fun _ => rfl)
  | succ d ih =>
    intro i e1 e2
    have hi' : i < x.length := by omega
    refine Ev.succ ?_
    simp only [sequiturbase_Int64s.l0]
    rw [show wrap64 ((i:Int) + 1) = ((i+1 : Nat) : Int) by rw [w64 (by omega) (by omega)]; omega]
    exact Ev.pos (by omega) (Ev.pos (by omega) (Ev.pos (by omega) (Ev.pos (by trivial) (ih (i + 1) (by omega) (by omega)))))
theorem i64s_ev (x : List Int) (hx : x.length ≤ 1000000) : Ev (fun k => sequiturbase_Int64s.f k x x) true := Ev.pos rfl (i64s_l0 x hx _ 0 rfl (by omega))
theorem alive29_ev : Ev (fun k => sequiturlaw29_alive.f k) true := Ev.mono 200 sequiturlaw29_alive.mono (by decide +kernel)
def rcD (q : S41) : Int := if rightL (-1) q.f1 = true then 0 else 1
def evD (x : List Int) (q : S41) : Int × Int := if rightL (-1) q.f1 = true then (if (fit64 (evalSum q.f0 q.f1 x)).2 = true then ((fit64 (evalSum q.f0 q.f1 x)).1, 0) else (0, 5)) else (0, 1)
/-- The point, form by form. -/
def ptD (x : List Int) : List S41 → List Int → List Int × Int
  | [], acc => (acc, 0)
  | q :: qs, acc => if (evD x q).2 = 0 then ptD x qs (acc ++ [(evD x q).1]) else ([], (evD x q).2)
/-- The same, as the statement goes through the forms. -/
def laD (x : List Int) : List S41 → List Int → Int → List Int × Int
  | [], acc, w => (acc, w)
  | q :: qs, acc, w => if w = 0 then laD x qs (acc ++ [(evD x q).1]) (evD x q).2 else (acc, w)
theorem laD_ne (x : List Int) (l : List S41) (acc : List Int) (w : Int) (h : w ≠ 0) : laD x l acc w = (acc, w) := by
  cases l with
  | nil => rfl
  | cons q qs => rw [laD, if_neg h]
theorem ptD_laD (x : List Int) : ∀ (l : List S41) (acc : List Int), ptD x l acc = (if (laD x l acc 0).2 = 0 then (laD x l acc 0).1 else [], (laD x l acc 0).2)
  | [], acc => by simp [ptD, laD]
  | q :: qs, acc => by
    rw [ptD, laD, if_pos rfl]
    by_cases e : (evD x q).2 = 0
    · rw [if_pos e, e]
      exact ptD_laD x qs _
    · rw [if_neg e, laD_ne x qs _ _ e, if_neg e]
def wantD (l : List S41) (w : Int) : Int := if w = 0 then (if l.all (fun q => decide (rcD q = 0)) then 0 else 1) else w
section
variable (l : List S41) (x : List Int) (hl : l.length ≤ 80) (hq : ∀ q ∈ l, R64 q.f0 ∧ M64 q.f1 ∧ q.f1.length ≤ 80) (hx : I64 x)
include hq
theorem rcAt (i : Nat) (hi : i < l.length) : Ev (fun k => lin_Right.f k l[i].f0 l[i].f1) (rcD l[i]) := Right_ev _ _ (by have := (hq _ (List.getElem_mem hi)).2.2; omega)
include hx
theorem evAt (i : Nat) (hi : i < l.length) : Ev (fun k => lin_Eval.f k l[i].f0 l[i].f1 x) (evD x l[i]) :=
  Eval_ev _ _ _ (hq _ (List.getElem_mem hi)).1 (hq _ (List.getElem_mem hi)).2.1 hx (by have := (hq _ (List.getElem_mem hi)).2.2; omega)
include hl
theorem pt_l1 : ∀ (n i : Nat) (acc : List Int), l.length - i = n → i ≤ l.length → acc.length ≤ i → Ev (fun k => euclid_Point.l1 k x acc l (l.length : Int) i) (ptD x (l.drop i) acc) := by
  intro n
  induction n with
  | zero =>
    intro i acc h1 h2 h3
    refine Ev.succ (Ev.now fun k => ?_)
    simp only [euclid_Point.l1]
    rw [if_neg (by omega), List.drop_eq_nil_of_le (by omega)]; rfl
  | succ n ih =>
    intro i acc h1 h2 h3
    have hi : i < l.length := by omega
    rw [List.drop_eq_getElem_cons hi, ptD]
    refine Ev.succ ?_
    simp only [euclid_Point.l1]
    rw [rdQ_at l i hi]
    refine Ev.pos (by omega) (Ev.pos (by omega) (Ev.pos (by omega) (Ev.bind (evAt l x hq hx i hi) ?_)))
    by_cases e : (evD x l[i]).2 = 0
    · rw [if_pos e]
      refine Ev.pos e (Ev.pos (by omega) ((ih (i+1) _ (by omega) (by omega) (by rw [List.length_append, List.length_singleton]; omega)).of fun k => ?_))
      rw [w64 (by omega) (by omega)]; rfl
    · rw [if_neg e]
      exact Ev.neg e (Ev.now fun _ => rfl)
theorem pt_l0 (F : Int) : ∀ (n i : Nat), l.length - i = n → i ≤ l.length → Ev (fun k => euclid_Point.l0 k x l (l.length : Int) i l F) (if (l.drop i).all (fun q => decide (rcD q = 0)) then ptD x l [] else ([], 1)) := by
  intro n
  induction n with
  | zero =>
    intro i h1 h2
    refine Ev.succ ?_
    simp only [euclid_Point.l0]
    rw [List.drop_eq_nil_of_le (by omega), List.all_nil, if_pos rfl]
    refine Ev.neg (by omega) ((pt_l1 l x hl hq hx _ 0 [] rfl (by omega) (Nat.le_refl _)).val ?_)
    rw [List.drop_zero]
  | succ n ih =>
    intro i h1 h2
    have hi : i < l.length := by omega
    rw [List.drop_eq_getElem_cons hi, List.all_cons]
    refine Ev.succ ?_
    simp only [euclid_Point.l0]
    rw [rdQ_at l i hi]
    refine Ev.pos (by omega) (Ev.pos (by omega) (Ev.pos (by omega) (Ev.bind (rcAt l hq i hi) ?_)))
    by_cases e : rcD l[i] = 0
    · rw [decide_eq_true e, Bool.true_and]
      refine Ev.pos e ((ih (i+1) (by omega) (by omega)).of fun k => ?_)
      rw [w64 (by omega) (by omega)]; rfl
    · rw [decide_eq_false e, Bool.false_and]
      exact Ev.neg e (Ev.now fun _ => rfl)
theorem law_l1 (X : List Int) (E : Int) (hX : X.length ≤ 1000000) : ∀ (n i : Nat) (acc : List Int) (w : Int), l.length - i = n → i ≤ l.length → acc.length ≤ i →
    (X = if (laD x (l.drop i) acc w).2 = 0 then (laD x (l.drop i) acc w).1 else []) → E = (laD x (l.drop i) acc w).2 → Ev (fun k => sequiturlaw29_EuclidPoints.l1 k x X E w acc l (l.length : Int) i) true := by
  have hj : ∀ (acc : List Int) (w : Int), (X = if w = 0 then acc else []) → E = w → Ev (fun k => sequiturlaw29_EuclidPoints.j4 k X E w acc) true := by
    intro acc w h1 h2
    refine Ev.succ ?_
    simp only [sequiturlaw29_EuclidPoints.j4]
    by_cases e : w = 0
    · rw [if_pos e] at h1
      subst h1
      exact Ev.pos e (Ev.bind (i64s_ev X hX) (Ev.pos rfl (Ev.pos h2 (Ev.bind alive29_ev (Ev.now fun _ => rfl)))))
    · rw [if_neg e] at h1
      subst h1
      exact Ev.neg e (Ev.bind (i64s_ev [] (by simp)) (Ev.pos rfl (Ev.pos h2 (Ev.bind alive29_ev (Ev.now fun _ => rfl)))))
  intro n
  induction n with
  | zero =>
    intro i acc w h1 h2 h3 e1 e2
    rw [List.drop_eq_nil_of_le (by omega)] at e1 e2
    refine Ev.succ ?_
    simp only [sequiturlaw29_EuclidPoints.l1]
    exact Ev.neg (by omega) (hj acc w e1 e2)
  | succ n ih =>
    intro i acc w h1 h2 h3 e1 e2
    have hi : i < l.length := by omega
    rw [List.drop_eq_getElem_cons hi, laD] at e1 e2
    refine Ev.succ ?_
    simp only [sequiturlaw29_EuclidPoints.l1]
    rw [rdQ_at l i hi]
    refine Ev.pos (by omega) (Ev.pos (by omega) (Ev.pos (by omega) ?_))
    by_cases e : w = 0
    · rw [if_pos e] at e1 e2
      refine Ev.pos e (Ev.bind (evAt l x hq hx i hi) (Ev.pos (by omega) ((ih (i+1) _ _ (by omega) (by omega) (by rw [List.length_append, List.length_singleton]; omega) e1 e2).of fun k => ?_)))
      rw [w64 (by omega) (by omega)]; rfl
    · rw [if_neg e] at e1 e2
      exact Ev.neg e (hj acc w e1 e2)
theorem law_l0 (F : Int) (X : List Int) (E : Int) (hX : X.length ≤ 1000000) : ∀ (n i : Nat) (w : Int), l.length - i = n → i ≤ l.length → (w = 0 ∨ w = 1) →
    (X = if (laD x l [] (wantD (l.drop i) w)).2 = 0 then (laD x l [] (wantD (l.drop i) w)).1 else []) → E = (laD x l [] (wantD (l.drop i) w)).2 → Ev (fun k => sequiturlaw29_EuclidPoints.l0 k x X E w l (l.length : Int) i l F) true := by
  intro n
  induction n with
  | zero =>
    intro i w h1 h2 h3 e1 e2
    have hw : wantD (l.drop i) w = w := by
      rw [List.drop_eq_nil_of_le (by omega)]; unfold wantD
      split
      · rename_i h; rw [h]; rfl
      · rfl
    rw [hw] at e1 e2
    refine Ev.succ ?_
    simp only [sequiturlaw29_EuclidPoints.l0]
    exact Ev.neg (by omega) (law_l1 l x hl hq hx X E hX _ 0 [] w rfl (by omega) (Nat.le_refl _) (by rw [List.drop_zero]; exact e1) (by rw [List.drop_zero]; exact e2))
  | succ n ih =>
    intro i w h1 h2 h3 e1 e2
    have hi : i < l.length := by omega
    refine Ev.succ ?_
    simp only [sequiturlaw29_EuclidPoints.l0]
    rw [rdQ_at l i hi]
    refine Ev.pos (by omega) (Ev.pos (by omega) (Ev.pos (by omega) ?_))
    have hcons := List.drop_eq_getElem_cons hi
    by_cases e : w = 0
    · subst e
      refine Ev.pos rfl (Ev.bind (rcAt l hq i hi) ?_)
      by_cases e : rcD l[i] = 0
      · have hw : wantD (l.drop i) 0 = wantD (l.drop (i + 1)) 0 := by
          unfold wantD
          rw [if_pos rfl, if_pos rfl, hcons, List.all_cons, decide_eq_true e, Bool.true_and]
        rw [hw] at e1 e2
        refine Ev.pos e ((ih (i+1) 0 (by omega) (by omega) (.inl rfl) e1 e2).of fun k => ?_)
        rw [w64 (by omega) (by omega)]; rfl
      · have hw : wantD (l.drop i) 0 = wantD (l.drop (i + 1)) 1 := by
          show (if ((l.drop i).all fun q => decide (rcD q = 0)) = true then (0 : Int) else 1) = 1
          rw [hcons, List.all_cons, decide_eq_false e, Bool.false_and]
          rfl
        rw [hw] at e1 e2
        refine Ev.neg e ((ih (i+1) 1 (by omega) (by omega) (.inr rfl) e1 e2).of fun k => ?_)
        rw [w64 (by omega) (by omega)]; rfl
    · have hw : wantD (l.drop i) w = wantD (l.drop (i + 1)) w := by simp [wantD, e]
      rw [hw] at e1 e2
      refine Ev.neg e ((ih (i+1) w (by omega) (by omega) h3 e1 e2).of fun k => ?_)
      rw [w64 (by omega) (by omega)]; rfl
end
theorem laD_len (x : List Int) : ∀ (l : List S41) (acc : List Int) (w : Int), (laD x l acc w).1.length ≤ acc.length + l.length
  | [], acc, w => by simp [laD]
  | q :: qs, acc, w => by
    rw [laD]
    split
    · have := laD_len x qs (acc ++ [(evD x q).1]) (evD x q).2
      rw [List.length_append, List.length_singleton] at this
      rw [List.length_cons]; omega
    · show acc.length ≤ _; omega
theorem EuclidPoints_pure (l0 : List S41) (a1 : Int) (l2 : List Int) (h0 : ∀ q ∈ l0, R64 q.f0 ∧ M64 q.f1 ∧ q.f1.length ≤ maxLen) (h2 : I64 l2) :
    ∃ k, sequiturlaw29_EuclidPoints.f k l0 a1 l2 = some true := by
  refine Ev.at_ (f := fun k => sequiturlaw29_EuclidPoints.f k l0 a1 l2) (Ev.bind (few_ev l0) ?_)
  have hj : Ev (fun k => sequiturlaw29_EuclidPoints.j0 k l2 true l0 a1) true := by
    refine Ev.succ ?_
    simp only [sequiturlaw29_EuclidPoints.j0]
    exact Ev.pos trivial (Ev.bind alive29_ev (Ev.now fun _ => rfl))
  by_cases hL : fewD l0 = true
  · refine Ev.pos hL ?_
    by_cases h100 : (l2.length : Int) > 100
    · rw [decide_eq_true h100]; exact hj
    · rw [decide_eq_false h100]
      have hf := few_is hL
      have hl := hf.1
      have hq : ∀ q ∈ l0, R64 q.f0 ∧ M64 q.f1 ∧ q.f1.length ≤ 80 := fun q hq => ⟨(h0 q hq).1, (h0 q hq).2.1, hf.2 q hq⟩
      refine Ev.succ ?_
      simp only [sequiturlaw29_EuclidPoints.j0]
      refine Ev.neg (by simp) ?_
      have fin : ∀ (X : List Int) (E w : Int), (w = 0 ∨ w = 1) → (X = if (laD l2 l0 [] (wantD l0 w)).2 = 0 then (laD l2 l0 [] (wantD l0 w)).1 else []) → E = (laD l2 l0 [] (wantD l0 w)).2 → Ev (fun k => sequiturlaw29_EuclidPoints.j1 k l2 X E w l0 a1) true := by
        intro X E w hw e1 e2
        refine Ev.succ ?_
        simp only [sequiturlaw29_EuclidPoints.j1]
        refine law_l0 l0 l2 hl hq h2 a1 X E ?_ _ 0 w rfl (by omega) hw (by rw [List.drop_zero]; exact e1) (by rw [List.drop_zero]; exact e2)
        rw [e1]
        split
        · have := laD_len l2 l0 [] (wantD l0 w)
          simp at this; omega
        · simp
      by_cases hF : (l2.length : Int) = a1
      · refine Ev.bind (Ev.pos hF (pt_l0 l0 l2 hl hq h2 a1 _ 0 rfl (by omega))) (Ev.pos hF ?_)
        rw [List.drop_zero]
        by_cases hall : l0.all (fun q => decide (rcD q = 0)) = true
        · have hw : wantD l0 0 = 0 := by unfold wantD; rw [if_pos rfl, if_pos hall]
          rw [if_pos hall, ptD_laD]
          exact fin _ _ 0 (.inl rfl) (by rw [hw]) (by rw [hw])
        · have hw : wantD l0 0 = 1 := by unfold wantD; rw [if_pos rfl, if_neg hall]
          rw [if_neg hall]
          exact fin _ _ 0 (.inl rfl) (by rw [hw, laD_ne _ _ _ _ (by decide)]; rfl) (by rw [hw, laD_ne _ _ _ _ (by decide)])
      · refine Ev.bind (v := (([] : List Int), (1 : Int))) (Ev.neg hF (Ev.now fun _ => rfl)) (Ev.neg hF ?_)
        have hw : wantD l0 1 = 1 := by unfold wantD; rw [if_neg (by decide)]
        exact fin _ _ 1 (.inr rfl) (by rw [hw, laD_ne _ _ _ _ (by decide)]; rfl) (by rw [hw, laD_ne _ _ _ _ (by decide)])
  · exact Ev.neg hL hj
open Go.ChangeShapes Go.WideShapes
theorem list_of {α : Type} (n : Nat) (p : Nat → α → Prop) (h : ∀ i, i < n → ∃ x, p i x) : ∃ l : List α, l.length = n ∧ ∀ i x, l[i]? = some x → p i x := by
  induction n with
  | zero => exact ⟨[], rfl, by simp⟩
  | succ n ih =>
    obtain ⟨l, hl, hp⟩ := ih (fun i hi => h i (by omega))
    obtain ⟨x, hx⟩ := h n (by omega)
    refine ⟨l ++ [x], by simp [hl], fun i y hy => ?_⟩
    rcases Nat.lt_or_ge i n with q | q
    · rw [List.getElem?_append_left (by omega)] at hy; exact hp i y hy
    · rw [List.getElem?_append_right (by omega)] at hy
      have : i - l.length = 0 := by
        rcases Nat.eq_zero_or_pos (i - l.length) with e | e
        · exact e
        · rw [List.getElem?_eq_none (by simp; omega)] at hy; cases hy
      rw [this] at hy
      obtain rfl : x = y := by simpa using hy
      rw [show i = n by omega]; exact hx
/-- An argument that is a slice, opened: a list of what its elements are. -/
theorem open_row {H : Type} {enc : TypeId × Value → H} {W : World} {held : Bool} {α : Type} (d : Kd α) (Q : α → Prop) {t e : TypeId} {spare : Nat → Bool} {fuel : Nat} {A : Option Addr} {n c : Nat} {x : DataW H × List MemPlace}
    (ht : Try.prog.underlying t = some (.slice e)) (hsz : Try.prog.cellsOf e = d.sz)
    (ho : ∀ m cs y, DataW.trod enc Try.prog W 0 spare held m e cs = some y → ∃ x, d.K W x cs ∧ Q x)
    (h : DataW.trod enc Try.prog W 0 spare held fuel t [.slice A n c] = some x) :
    ∃ l : List α, l.length = n ∧ n ≤ c ∧ c ≤ maxLen ∧ d.C W A n l ∧ ∀ x ∈ l, Q x := by
  rcases Go.Deep.open_slice ht h with ⟨hcs, _⟩ | ⟨a, len, cap, m, n', D, Pl, hcs, _, hl, hm, hmm, _, hi⟩
  · simp at hcs
    obtain ⟨rfl, rfl, rfl⟩ := hcs
    exact ⟨[], rfl, Nat.le_refl _, Nat.zero_le _, Kd.C_nil d W, by simp⟩
  · simp at hcs
    obtain ⟨rfl, rfl, rfl⟩ := hcs
    have hmn : n ≤ m := by rw [hmm]; split <;> omega
    obtain ⟨l, h1, h2⟩ := list_of n (fun i x => (∃ cs, cs.length = d.sz ∧ d.K W x cs ∧ ∀ j u, cs[j]? = some u → W.cell? (a.add (i * d.sz + j)) = some u) ∧ Q x) (fun i hin => by
      obtain ⟨cs, hc, hx⟩ := hi i (by omega)
      obtain ⟨x, hK, hQ⟩ := ho _ _ _ hx
      obtain ⟨_, hlen, hat⟩ := World.cells?_some hc
      refine ⟨x, ⟨cs, hlen.trans hsz, hK, fun j u hj => ?_⟩, hQ⟩
      have hjl : j < cs.length := by
        rcases Nat.lt_or_ge j cs.length with q | q
        · exact q
        · rw [List.getElem?_eq_none q] at hj; cases hj
      rw [← hj, ← hat j (by omega), hsz, Go.Deep.add_add])
    refine ⟨l, h1, hl, hm, ⟨h1, ?_, fun _ => ⟨a, rfl, fun j p hj => (h2 j p hj).1⟩⟩, fun x hx => ?_⟩
    · have : maxLen = 9223372036854775807 := rfl
      omega
    · obtain ⟨i, hi', he⟩ := List.getElem_of_mem hx
      exact (h2 i x (by rw [List.getElem?_eq_getElem hi', he])).2
theorem open_int1 {H : Type} {enc : TypeId × Value → H} {W : World} {held : Bool} {spare : Nat → Bool} {m : Nat} {e : TypeId} (hu : Try.prog.underlying e = some (.int .i64)) (cs : List Value) (y : DataW H × List MemPlace) (h : DataW.trod enc Try.prog W 0 spare held m e cs = some y) :
    ∃ x : Int, (Kd.int .i64).K W x cs ∧ (-9223372036854775808 ≤ x ∧ x ≤ 9223372036854775807) := by
  obtain ⟨n, rfl, _, hw⟩ := DataW.trod_int hu h
  exact ⟨n, rfl, wf64 hw⟩
theorem open_ints1 {H : Type} {enc : TypeId × Value → H} {W : World} {held : Bool} {spare : Nat → Bool} {fuel : Nat} {t e : TypeId} {A : Option Addr} {n c : Nat} {x : DataW H × List MemPlace} (hu : Try.prog.underlying t = some (.slice e)) (he : Try.prog.underlying e = some (.int .i64)) (hc : Try.prog.cellsOf e = 1)
    (h : DataW.trod enc Try.prog W 0 spare held fuel t [.slice A n c] = some x) :
    ∃ l : List Int, l.length = n ∧ n ≤ c ∧ c ≤ maxLen ∧ Kd.C (Kd.int .i64) W A n l ∧ I64 l :=
  open_row (Kd.int .i64) _ hu hc (fun _ cs y h => open_int1 he cs y h) h
/-- A monomial's cells. -/
theorem open_mono {H : Type} {enc : TypeId × Value → H} {W : World} {held : Bool} {spare : Nat → Bool} {m : Nat} (cs : List Value) (y : DataW H × List MemPlace) (h : DataW.trod enc Try.prog W 0 spare held m 44 cs = some y) :
    ∃ x : S44, k44.K W x cs ∧ ((-9223372036854775808 ≤ x.f0 ∧ x.f0 ≤ 9223372036854775807) ∧ -9223372036854775808 ≤ x.f1 ∧ x.f1 ≤ 9223372036854775807) := by
  obtain ⟨y0, y1, n, _, hl, h0, h1⟩ := trod_struct2 Try.underlying44 h
  have e0 : Try.prog.cellsOf 3 = 1 := by kernel_rfl
  have e1 : Try.prog.cellsOf 2 = 1 := by kernel_rfl
  have e2 : Try.prog.cellsOf 44 = 2 := by kernel_rfl
  simp only [e0, e1] at h0 h1
  rw [e2] at hl
  match cs, hl with
  | [c0, c1], _ =>
    obtain ⟨a, ha, _, hw⟩ := DataW.trod_int Try.underlying3 h0
    obtain ⟨b, hb, _, hw2⟩ := DataW.trod_int Try.underlying2 h1
    simp at ha hb
    subst ha hb
    exact ⟨⟨a, b⟩, k44_mk W ⟨a, b⟩, wf64 hw, wf64 hw2⟩
/-- A form's cells. -/
theorem open_lin {H : Type} {enc : TypeId × Value → H} {W : World} {held : Bool} {spare : Nat → Bool} {m : Nat} (cs : List Value) (y : DataW H × List MemPlace) (h : DataW.trod enc Try.prog W 0 spare held m 41 cs = some y) :
    ∃ (x : S41) (A : Option Addr) (c : Nat), cs = [.int .i64 x.f0, .slice A x.f1.length c] ∧ x.f1.length ≤ c ∧ c ≤ maxLen ∧ Kd.C k44 W A x.f1.length x.f1 ∧ R64 x.f0 ∧ M64 x.f1 := by
  obtain ⟨y0, y1, n, _, hl, h0, h1⟩ := trod_struct2 Try.underlying41 h
  have e1 : Try.prog.cellsOf 2 = 1 := by kernel_rfl
  have e0 : Try.prog.cellsOf 39 = 1 := by kernel_rfl
  have e2 : Try.prog.cellsOf 41 = 2 := by kernel_rfl
  simp only [e0, e1] at h0 h1
  rw [e2] at hl
  match cs, hl with
  | [c0, c1], _ =>
    obtain ⟨a, ha, _, hw⟩ := DataW.trod_int Try.underlying2 h0
    simp at ha
    subst ha
    have h2 : DataW.trod enc Try.prog W 0 spare held n 39 [c1] = some y1 := h1
    have hs : ∃ A n c, c1 = .slice A n c := by
      rcases Go.Deep.open_slice Try.underlying39 h2 with ⟨hcs, _⟩ | ⟨a, len, cap, m, n', D, Pl, hcs, _⟩
      · simp at hcs; exact ⟨_, _, _, hcs⟩
      · simp at hcs; exact ⟨_, _, _, hcs⟩
    obtain ⟨A, len, c, rfl⟩ := hs
    obtain ⟨l, rfl, hc, hm, hC, hQ⟩ := open_row k44 _ Try.underlying39 (by kernel_rfl) (fun _ cs y h => open_mono cs y h) h2
    exact ⟨⟨a, l⟩, A, c, rfl, hc, hm, hC, wf64 hw, hQ⟩
def Q41 (x : S41) : Prop := R64 x.f0 ∧ M64 x.f1 ∧ x.f1.length ≤ maxLen
theorem open_linK {H : Type} {enc : TypeId × Value → H} {W : World} {held : Bool} {spare : Nat → Bool} {m : Nat} (cs : List Value) (y : DataW H × List MemPlace) (h : DataW.trod enc Try.prog W 0 spare held m 41 cs = some y) :
    ∃ x : S41, k41.K W x cs ∧ Q41 x := by
  obtain ⟨x, A, c, rfl, hc, hm, hC, hr, hM⟩ := open_lin cs y h
  exact ⟨x, k41_mk W x hc hC, hr, hM, Nat.le_trans hc hm⟩
/-- The cells of all solutions. -/
theorem open_para {H : Type} {enc : TypeId × Value → H} {W : World} {held : Bool} {spare : Nat → Bool} {m : Nat} (cs : List Value) (y : DataW H × List MemPlace) (h : DataW.trod enc Try.prog W 0 spare held m 32 cs = some y) :
    ∃ (l : List S41) (A : Option Addr) (c : Nat) (f : Int), cs = [.slice A l.length c, .int .i64 f] ∧ l.length ≤ c ∧ c ≤ maxLen ∧ Kd.C k41 W A l.length l ∧ (∀ q ∈ l, Q41 q) ∧ R64 f := by
  obtain ⟨y0, y1, n, _, hl, h0, h1⟩ := trod_struct2 Try.underlying32 h
  have e1 : Try.prog.cellsOf 3 = 1 := by kernel_rfl
  have e0 : Try.prog.cellsOf 22 = 1 := by kernel_rfl
  have e2 : Try.prog.cellsOf 32 = 2 := by kernel_rfl
  simp only [e0, e1] at h0 h1
  rw [e2] at hl
  match cs, hl with
  | [c0, c1], _ =>
    obtain ⟨a, ha, _, hw⟩ := DataW.trod_int Try.underlying3 h1
    simp at ha
    subst ha
    have h2 : DataW.trod enc Try.prog W 0 spare held n 22 [c0] = some y0 := h0
    have hs : ∃ A n c, c0 = .slice A n c := by
      rcases Go.Deep.open_slice Try.underlying22 h2 with ⟨hcs, _⟩ | ⟨a, len, cap, m, n', D, Pl, hcs, _⟩
      · simp at hcs; exact ⟨_, _, _, hcs⟩
      · simp at hcs; exact ⟨_, _, _, hcs⟩
    obtain ⟨A, len, c, rfl⟩ := hs
    obtain ⟨l, rfl, hc, hm, hC, hQ⟩ := open_row k41 Q41 Try.underlying22 (by kernel_rfl) (fun _ cs y h => open_linK cs y h) h2
    exact ⟨l, A, c, a, rfl, hc, hm, hC, hQ, wf64 hw⟩
set_option maxRecDepth 100000 in
/-- All solutions, by value. -/
theorem open_paraV {H : Type} {enc : TypeId × Value → H} {W : World} {held : Bool} {spare : Nat → Bool} {r : Reach} {b0 : Nat} {v : Value} {d : DataW H} {p : List MemPlace} (hv : Value.okWide Try.prog W r b0 32 v) (h : DataW.Trod enc Try.prog W 0 spare held 32 v d p) :
    ∃ (l : List S41) (A : Option Addr) (c : Nat) (f : Int), v = .agg #[.slice A l.length c, .int .i64 f] ∧ l.length ≤ c ∧ c ≤ maxLen ∧ Kd.C k41 W A l.length l ∧ (∀ q ∈ l, Q41 q) ∧ R64 f := by
  obtain ⟨cs, rfl, _⟩ := okWide_struct Try.underlying32 hv
  obtain ⟨fuel, hf⟩ := h
  obtain ⟨l, A, c, f, hcs, rest⟩ := open_para cs.toList _ hf
  exact ⟨l, A, c, f, congrArg Value.agg (Array.toList_inj.1 hcs), rest⟩
end Go.Proofs.Ytjinmlpekecmbaa.Pure
