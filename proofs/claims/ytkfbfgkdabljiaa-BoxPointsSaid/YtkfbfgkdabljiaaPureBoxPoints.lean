/- The points of a box, in order, as many as one takes, are what the reference says: for every box and number (asked of boxes of at most 2000 points or too many, 10 variables). -/
import Derived.Test.YtkfbfgkdabljiaaPBoxPointsx
import Derived.Laws.BitsAllLaws
import Derived.Deep.Slices
import Derived.ChangeSame
import Derived.KernelRfl
import Derived.OpenShut
namespace Go.Proofs.Ytkfbfgkdabljiaa.Pure
open Go.RowKit Go.Proofs.Ytkfbfgkdabljiaa.PBoxPoints Go.Proofs.YtkfbfgkdabljiaaW.PrintWords Go.Proofs.YtkfbfgkdabljiaaW.PrintLast
set_option linter.unusedVariables false
set_option linter.unusedSimpArgs false
-- one round of the halving: x odd, y = 2^t * z, z odd
theorem u64w (n : Int) : IntKind.u64.wrap n = n % 18446744073709551616 := by
  simp [IntKind.wrap, IntKind.bits, IntKind.signed]
theorem wf64 {a : Int} (h : (Lit.int .i64 a).wf = true) : -9223372036854775808 ≤ a ∧ a ≤ 9223372036854775807 := by
  simpa [Lit.wf, IntKind.min, IntKind.max, IntKind.signed, IntKind.bits] using h
theorem w64 {n : Int} (h1 : -9223372036854775808 ≤ n) (h2 : n ≤ 9223372036854775807) : wrap64 n = n := by
  unfold wrap64; omega
def I64 (l : List Int) : Prop := ∀ x ∈ l, -9223372036854775808 ≤ x ∧ x ≤ 9223372036854775807
theorem rd_at (l : List Int) (i : Nat) (h : i < l.length) : rd l (i:Int) = l[i] := by
  simp [rd, h]
/-- At all great fuels the same answer. -/
def Ev {α : Type} (f : Nat → Option α) (v : α) : Prop := ∃ K, ∀ k, K ≤ k → f k = some v
theorem Ev.now {α : Type} {f : Nat → Option α} {v : α} (h : ∀ k, f k = some v) : Ev f v := ⟨0, fun k _ => h k⟩
theorem Ev.succ {α : Type} {f : Nat → Option α} {v : α} (h : Ev (fun k => f (k + 1)) v) : Ev f v := by
  obtain ⟨K, h⟩ := h
  refine ⟨K + 1, fun k hk => ?_⟩
  obtain ⟨m, rfl⟩ : ∃ m, k = m + 1 := ⟨k - 1, by omega⟩
  exact h m (by omega)
theorem Ev.bind {α β : Type} {f : Nat → Option α} {g : Nat → α → Option β} {v : α} {u : β} (h : Ev f v) (h2 : Ev (fun k => g k v) u) : Ev (fun k => (f k).bind (g k)) u := by
  obtain ⟨K, h⟩ := h
  obtain ⟨K2, h2⟩ := h2
  refine ⟨max K K2, fun k hk => ?_⟩
  show (f k).bind (g k) = some u
  rw [h k (by omega)]
  exact h2 k (by omega)
theorem Ev.of {α : Type} {f g : Nat → Option α} {v : α} (h : Ev f v) (e : ∀ k, g k = f k) : Ev g v := by
  obtain ⟨K, h⟩ := h
  exact ⟨K, fun k hk => (e k).trans (h k hk)⟩
theorem Ev.at_ {α : Type} {f : Nat → Option α} {v : α} (h : Ev f v) : ∃ k, f k = some v := by
  obtain ⟨K, h⟩ := h
  exact ⟨K, h K (Nat.le_refl _)⟩
theorem Ev.mono {α : Type} {f : Nat → Option α} {v : α} (K : Nat) (hm : ∀ k, LeO (f k) (f (k + 1))) (h : f K = some v) : Ev f v := by
  refine ⟨K, fun k hk => ?_⟩
  obtain ⟨d, rfl⟩ := Nat.exists_eq_add_of_le hk
  induction d with
  | zero => exact h
  | succ d ih => exact hm (K + d) v (ih (by omega))
theorem Ev.val {α : Type} {f : Nat → Option α} {v u : α} (h : Ev f v) (e : v = u) : Ev f u := e ▸ h
theorem Ev.pos {α : Type} {c : Prop} [Decidable c] {f g : Nat → Option α} {v : α} (h : c) (hf : Ev f v) : Ev (fun k => if c then f k else g k) v := hf.of fun k => if_pos h
theorem Ev.neg {α : Type} {c : Prop} [Decidable c] {f g : Nat → Option α} {v : α} (h : ¬ c) (hf : Ev g v) : Ev (fun k => if c then f k else g k) v := hf.of fun k => if_neg h
theorem rdI_at (l : List S70) (i : Nat) (h : i < l.length) : rd_T70 l (i:Int) = l[i] := by simp [rd_T70, h]
/-- The monomials' ranges. -/
def M64 (l : List S68) : Prop := ∀ m ∈ l, (-9223372036854775808 ≤ m.f0 ∧ m.f0 ≤ 9223372036854775807) ∧ -9223372036854775808 ≤ m.f1 ∧ m.f1 ≤ 9223372036854775807
def R64 (n : Int) : Prop := -9223372036854775808 ≤ n ∧ n ≤ 9223372036854775807
instance instR64 (n : Int) : Decidable (R64 n) := inferInstanceAs (Decidable (_ ∧ _))
/-- How many there are; how many from x on; the next one; whether x is one. -/
def bxN : List Int → List Int → Int
  | a :: lo, b :: hi => (b - a + 1) * bxN lo hi
  | _, _ => 1
def bxC : List Int → List Int → List Int → Int
  | a :: lo, b :: hi, v :: x => bxC lo hi x + (b - v) * bxN lo hi
  | _, _, _ => 1
def nxL : List Int → List Int → List Int → Option (List Int)
  | a :: lo, b :: hi, v :: x => match nxL lo hi x with
    | some y => some (v :: y)
    | none => if v < b then some ((v + 1) :: lo) else none
  | _, _, _ => none
def inB : List Int → List Int → List Int → Prop
  | a :: lo, b :: hi, v :: x => a ≤ v ∧ v ≤ b ∧ inB lo hi x
  | [], [], [] => True
  | _, _, _ => False
theorem inB_len : ∀ {lo hi x : List Int}, inB lo hi x → lo.length = hi.length ∧ x.length = hi.length
  | [], [], [], _ => ⟨rfl, rfl⟩
  | a :: lo, b :: hi, v :: x, h => by have := inB_len h.2.2; simp [this.1, this.2]
theorem inB_lo : ∀ {lo hi x : List Int}, inB lo hi x → inB lo hi lo
  | [], [], [], _ => trivial
  | a :: lo, b :: hi, v :: x, h => ⟨Int.le_refl _, by have := h.1; have := h.2.1; omega, inB_lo h.2.2⟩
theorem bxN_pos : ∀ {lo hi x : List Int}, inB lo hi x → 1 ≤ bxN lo hi
  | [], [], [], _ => by simp [bxN]
  | a :: lo, b :: hi, v :: x, h => by
    have h1 := bxN_pos h.2.2
    have h2 : 1 * 1 ≤ (b - a + 1) * bxN lo hi := Int.mul_le_mul (by have := h.1; have := h.2.1; omega) h1 (by omega) (by have := h.1; have := h.2.1; omega)
    simpa [bxN] using h2
theorem bxC_pos : ∀ {lo hi x : List Int}, inB lo hi x → 1 ≤ bxC lo hi x
  | [], [], [], _ => by simp [bxC]
  | a :: lo, b :: hi, v :: x, h => by
    have h1 := bxC_pos h.2.2
    have h2 := bxN_pos h.2.2
    have h3 : 0 ≤ (b - v) * bxN lo hi := Int.mul_nonneg (by have := h.2.1; omega) (by omega)
    simp only [bxC]; omega
theorem bxC_lo : ∀ {lo hi : List Int}, inB lo hi lo → bxC lo hi lo = bxN lo hi
  | [], [], _ => by simp [bxC, bxN]
  | a :: lo, b :: hi, h => by
    have h1 := bxC_lo h.2.2
    simp only [bxC, bxN]
    rw [h1, Int.add_mul]; omega
theorem nx_none : ∀ {lo hi x : List Int}, inB lo hi x → nxL lo hi x = none → bxC lo hi x = 1
  | [], [], [], _, _ => by simp [bxC]
  | a :: lo, b :: hi, v :: x, h, e => by
    simp only [nxL] at e
    cases hn : nxL lo hi x with
    | some y => rw [hn] at e; cases e
    | none =>
      rw [hn] at e
      simp only at e
      split at e
      · cases e
      · have h1 := nx_none h.2.2 hn
        have : v = b := by have := h.2.1; omega
        subst this
        simp [bxC, h1]
theorem nx_some : ∀ {lo hi x y : List Int}, inB lo hi x → nxL lo hi x = some y → inB lo hi y ∧ bxC lo hi x = bxC lo hi y + 1
  | [], [], [], y, _, e => by simp [nxL] at e
  | a :: lo, b :: hi, v :: x, y, h, e => by
    simp only [nxL] at e
    cases hn : nxL lo hi x with
    | some z =>
      rw [hn] at e
      obtain rfl := Option.some.inj e
      obtain ⟨h1, h2⟩ := nx_some h.2.2 hn
      exact ⟨⟨h.1, h.2.1, h1⟩, by simp only [bxC]; omega⟩
    | none =>
      rw [hn] at e
      simp only at e
      split at e
      · rename_i hlt
        obtain rfl := Option.some.inj e
        have h1 := nx_none h.2.2 hn
        have h3 := inB_lo h.2.2
        have h2 := bxC_lo h3
        refine ⟨⟨by have := h.1; omega, by omega, h3⟩, ?_⟩
        simp only [bxC]
        rw [h1, h2, show b - v = (b - (v + 1)) + 1 by omega, Int.add_mul]; omega
      · cases e
/-- As many points as c, from x on. -/
def ptsF (lo hi : List Int) : Nat → List Int → List (List Int)
  | 0, _ => []
  | c + 1, x => x :: (match nxL lo hi x with | some y => ptsF lo hi c y | none => [])
theorem ptsF_len (lo hi : List Int) : ∀ (c : Nat) (x : List Int), (ptsF lo hi c x).length ≤ c := by
  intro c
  induction c with
  | zero => intro x; simp [ptsF]
  | succ c ih =>
    intro x
    simp only [ptsF]
    split
    · have := ih ‹_›
      simp; omega
    · simp
/-- The next one as it is looked for: from the right. -/
def nxI (lo hi x : List Int) : Nat → Option (List Int)
  | 0 => none
  | i + 1 => if rd x i < rd hi i then some (x.take i ++ (rd x i + 1) :: lo.drop (i + 1)) else nxI lo hi x i
theorem rd_cons (a : Int) (l : List Int) (i : Nat) : rd (a :: l) ((i + 1 : Nat) : Int) = rd l (i : Int) := by
  unfold rd
  rw [show (((i + 1 : Nat) : Int)).toNat = i + 1 by omega, show ((i : Int)).toNat = i by omega, List.getD_cons_succ]
theorem nxI_cons (a b v : Int) (lo hi x : List Int) : ∀ i, nxI (a :: lo) (b :: hi) (v :: x) (i + 1) = (match nxI lo hi x i with | some y => some (v :: y) | none => if v < b then some ((v + 1) :: lo) else none) := by
  intro i
  induction i with
  | zero => simp [nxI, rd]
  | succ i ih =>
    rw [nxI, rd_cons, rd_cons]
    by_cases c : rd x (i : Int) < rd hi (i : Int)
    · rw [if_pos c]
      simp [nxI, c]
    · rw [if_neg c, ih]
      simp [nxI, c]
theorem nxI_all : ∀ {lo hi x : List Int}, inB lo hi x → nxI lo hi x x.length = nxL lo hi x
  | [], [], [], _ => rfl
  | a :: lo, b :: hi, v :: x, h => by
    rw [List.length_cons, nxI_cons, nxI_all h.2.2]
    rfl
theorem take_set (x lo : List Int) (i : Nat) (hi : i < x.length) (hl : x.length = lo.length) (v : Int) : (x.take (i + 1) ++ lo.drop (i + 1)).set i v = x.take i ++ v :: lo.drop (i + 1) := by
  rw [List.take_succ_eq_append_getElem hi, List.append_assoc, List.set_append_right _ _ (by simp; omega)]
  simp [Nat.min_eq_left (Nat.le_of_lt hi)]
theorem take_rd (x lo : List Int) (i : Nat) (hi : i < x.length) : rd (x.take (i + 1) ++ lo.drop (i + 1)) (i : Int) = rd x (i : Int) := by
  rw [rd_at _ i (by simp; omega), rd_at _ i hi, List.getElem_append_left (by simp; omega), List.getElem_take]
section
variable {lo hi x : List Int} (hB : inB lo hi x) (hx : I64 x) (hh : I64 hi) (hl : x.length ≤ 1000000)
include hB hx hh hl
theorem step_l0 : ∀ i, i ≤ x.length → Ev (fun k => box_step.l0 k lo hi (x.take i ++ lo.drop i) ((i : Int) - 1)) ((nxI lo hi x i).getD lo) := by
  obtain ⟨n1, n2⟩ := inB_len hB
  intro i
  induction i with
  | zero =>
    intro _
    refine Ev.succ ?_
    simp only [box_step.l0]
    exact Ev.neg (by omega) (Ev.now fun _ => by simp [nxI])
  | succ i ih =>
    intro hi'
    have hI := ih (by omega)
    have hlen : (x.take (i + 1) ++ lo.drop (i + 1)).length = x.length := by simp; omega
    have hr1 := rd_at x i (by omega)
    have hr2 := rd_at hi i (by omega)
    have r1 := hx x[i] (List.getElem_mem (by omega))
    have r2 := hh hi[i] (List.getElem_mem (by omega))
    refine Ev.succ ?_
    simp only [box_step.l0]
    rw [show ((i + 1 : Nat) : Int) - 1 = (i : Int) by omega, hlen, take_rd x lo i (by omega), show ((i : Int)).toNat = i by omega, take_set x lo i (by omega) (by omega), take_set x lo i (by omega) (by omega)]
    refine Ev.pos (by omega) (Ev.pos (by omega) (Ev.pos (by omega) ?_))
    by_cases c : rd x (i : Int) < rd hi (i : Int)
    · have hw : wrap64 (rd x (i : Int) + 1) = rd x (i : Int) + 1 := w64 (by rw [hr1]; omega) (by rw [hr1, hr2] at c; rw [hr1]; omega)
      rw [hw]
      refine Ev.pos c (Ev.now fun _ => ?_)
      simp [nxI, c]
    · refine Ev.neg c (Ev.pos (by omega) ?_)
      have he : x.take i ++ rd lo (i : Int) :: lo.drop (i + 1) = x.take i ++ lo.drop i := by
        rw [rd_at lo i (by omega), ← List.drop_eq_getElem_cons]
      have hn : nxI lo hi x (i + 1) = nxI lo hi x i := by simp [nxI, c]
      rw [he, hn, show wrap64 ((i : Int) - 1) = (i : Int) - 1 by rw [w64 (by omega) (by omega)]]
      exact hI
theorem next_l0 : ∀ i, i ≤ x.length → Ev (fun k => sequiturref32_next.l0 k lo hi (x.take i ++ lo.drop i) ((i : Int) - 1)) (match nxI lo hi x i with | some y => (y, true) | none => ([], false)) := by
  obtain ⟨n1, n2⟩ := inB_len hB
  intro i
  induction i with
  | zero =>
    intro _
    refine Ev.succ ?_
    simp only [sequiturref32_next.l0]
    exact Ev.neg (by omega) (Ev.now fun _ => by simp [nxI])
  | succ i ih =>
    intro hi'
    have hI := ih (by omega)
    have hlen : (x.take (i + 1) ++ lo.drop (i + 1)).length = x.length := by simp; omega
    have hr1 := rd_at x i (by omega)
    have hr2 := rd_at hi i (by omega)
    have r1 := hx x[i] (List.getElem_mem (by omega))
    have r2 := hh hi[i] (List.getElem_mem (by omega))
    refine Ev.succ ?_
    simp only [sequiturref32_next.l0]
    rw [show ((i + 1 : Nat) : Int) - 1 = (i : Int) by omega, hlen, take_rd x lo i (by omega), show ((i : Int)).toNat = i by omega, take_set x lo i (by omega) (by omega), take_set x lo i (by omega) (by omega)]
    refine Ev.pos (by omega) (Ev.pos (by omega) (Ev.pos (by omega) (Ev.pos (by omega) ?_)))
    by_cases c : rd x (i : Int) < rd hi (i : Int)
    · have hw : wrap64 (rd x (i : Int) + 1) = rd x (i : Int) + 1 := w64 (by rw [hr1]; omega) (by rw [hr1, hr2] at c; rw [hr1]; omega)
      rw [hw]
      refine Ev.pos c (Ev.now fun _ => ?_)
      simp [nxI, c]
    · refine Ev.neg c (Ev.pos (by omega) ?_)
      have he : x.take i ++ rd lo (i : Int) :: lo.drop (i + 1) = x.take i ++ lo.drop i := by
        rw [rd_at lo i (by omega), ← List.drop_eq_getElem_cons]
      have hn : nxI lo hi x (i + 1) = nxI lo hi x i := by simp [nxI, c]
      rw [he, hn, show wrap64 ((i : Int) - 1) = (i : Int) - 1 by rw [w64 (by omega) (by omega)]]
      exact hI
theorem step_ev : Ev (fun k => box_step.f k lo hi x) ((nxL lo hi x).getD lo) := by
  obtain ⟨n1, n2⟩ := inB_len hB
  have h := step_l0 hB hx hh hl x.length (Nat.le_refl _)
  rw [nxI_all hB, List.take_length, List.drop_eq_nil_of_le (by omega), List.append_nil] at h
  unfold box_step.f
  rw [show wrap64 ((x.length : Int) - 1) = (x.length : Int) - 1 by rw [w64 (by omega) (by omega)]]
  exact h
theorem next_ev : Ev (fun k => sequiturref32_next.f k x lo hi) (match nxL lo hi x with | some y => (y, true) | none => ([], false)) := by
  obtain ⟨n1, n2⟩ := inB_len hB
  have h := next_l0 hB hx hh hl x.length (Nat.le_refl _)
  rw [nxI_all hB, List.take_length, List.drop_eq_nil_of_le (by omega), List.append_nil] at h
  unfold sequiturref32_next.f
  refine Ev.pos (by simp; omega) (Ev.bind (Ev.now fun _ => rfl) ?_)
  rw [List.nil_append, show wrap64 ((x.length : Int) - 1) = (x.length : Int) - 1 by rw [w64 (by omega) (by omega)]]
  exact h
end
theorem nx_I64 : ∀ {lo hi x y : List Int}, inB lo hi x → I64 lo → I64 hi → I64 x → nxL lo hi x = some y → I64 y := by
  intro lo hi x y hB h1 h2 h3 e
  have key : ∀ {lo hi x : List Int}, inB lo hi x → I64 lo → I64 hi → I64 x := by
    intro lo
    induction lo with
    | nil =>
      intro hi x h _ _
      cases hi <;> cases x <;> first | exact h.elim | (intro v hv; cases hv)
    | cons a lo ih =>
      intro hi x h g1 g2
      cases hi with
      | nil => cases x <;> exact h.elim
      | cons b hi =>
        cases x with
        | nil => exact h.elim
        | cons v x =>
          have i1 := ih h.2.2 (fun z hz => g1 z (List.mem_cons_of_mem _ hz)) (fun z hz => g2 z (List.mem_cons_of_mem _ hz))
          have ja := g1 a (List.mem_cons_self ..)
          have jb := g2 b (List.mem_cons_self ..)
          intro z hz
          rcases List.mem_cons.1 hz with rfl | hz
          · have := h.1; have := h.2.1; omega
          · exact i1 z hz
  exact key (nx_some hB e).1 h1 h2
def leB : List Int → List Int → Bool
  | a :: lo, b :: hi => decide (a ≤ b) && leB lo hi
  | _, _ => true
/-- The product of the widths; none: more than 65536. -/
def szG : List Int → List Int → Int → Option Int
  | a :: lo, b :: hi, n => if b - a ≥ 65536 then none else if n * (b - a + 1) > 65536 then none else szG lo hi (n * (b - a + 1))
  | _, _, n => some n
theorem szG_val : ∀ {lo hi : List Int} {n m : Int}, szG lo hi n = some m → m = n * bxN lo hi := by
  intro lo
  induction lo with
  | nil => intro hi n m h; cases hi <;> (simp [szG] at h; simp [bxN, h])
  | cons a lo ih =>
    intro hi n m h
    cases hi with
    | nil => simp [szG] at h; simp [bxN, h]
    | cons b hi =>
      simp only [szG] at h
      split at h
      · cases h
      split at h
      · cases h
      rw [ih h, bxN, Int.mul_assoc]
theorem leB_inB : ∀ {lo hi : List Int}, lo.length = hi.length → leB lo hi = true → inB lo hi lo
  | [], [], _, _ => trivial
  | a :: lo, b :: hi, h1, h2 => by
    simp only [leB, Bool.and_eq_true, decide_eq_true_eq] at h2
    exact ⟨Int.le_refl _, h2.1, leB_inB (by simpa using h1) h2.2⟩
/-- The points and the error. -/
def szD (lo hi : List Int) : Int × Int := if lo.length = hi.length ∧ leB lo hi = true then (match szG lo hi 1 with | some m => (m, 0) | none => (0, 2)) else (0, 1)
def ptD (lo hi : List Int) : Int := if lo.length = hi.length ∧ leB lo hi = true then (match szG lo hi 1 with | some m => m | none => 65537) else 0
theorem wide_u64 {a b : Int} (ha : -9223372036854775808 ≤ a) (hb : b ≤ 9223372036854775807) (h : a ≤ b) : IntKind.u64.wrap (IntKind.u64.wrap b - IntKind.u64.wrap a) = b - a := by
  simp only [u64w]; omega
section
variable (lo hi : List Int) (h1 : lo.length = hi.length) (hl : lo.length ≤ 1000000) (r1 : I64 lo) (r2 : I64 hi)
include h1 hl r1 r2
theorem size_l1 (hle : ∀ (i : Nat) (h : i < lo.length), lo[i] ≤ hi[i]'(h1 ▸ h)) : ∀ (d i : Nat) (n : Int), lo.length - i = d → i ≤ lo.length → 1 ≤ n → n ≤ 65536 →
    Ev (fun k => box_size.l1 k lo hi n (lo.length : Int) i) (match szG (lo.drop i) (hi.drop i) n with | some m => (m, 0) | none => (0, 2)) := by
  intro d
  induction d with
  | zero =>
    intro i n e1 e2 n1 n2
    rw [List.drop_eq_nil_of_le (by omega), List.drop_eq_nil_of_le (by omega)]
    refine Ev.succ ?_
    simp only [box_size.l1]
    refine Ev.neg (by omega) (Ev.now fun _ => ?_)
    simp only [szG]
    rw [w64 (by omega) (by omega)]
  | succ d ih =>
    intro i n e1 e2 n1 n2
    have hi1 : i < lo.length := by omega
    have hi2 : i < hi.length := by omega
    have ra := r1 _ (List.getElem_mem hi1)
    have rb := r2 _ (List.getElem_mem hi2)
    have hle1 := hle i hi1
    rw [List.drop_eq_getElem_cons hi1, List.drop_eq_getElem_cons hi2]
    refine Ev.succ ?_
    simp only [box_size.l1]
    rw [rd_at lo i hi1, rd_at hi i hi2, wide_u64 ra.1 rb.2 hle1]
    refine Ev.pos (by omega) (Ev.pos (by omega) (Ev.pos (by omega) (Ev.pos (by omega) ?_)))
    simp only [szG]
    by_cases c : hi[i] - lo[i] ≥ 65536
    · rw [if_pos c]
      exact Ev.pos c (Ev.now fun _ => rfl)
    · rw [if_neg c]
      have hw : IntKind.u64.wrap (hi[i] - lo[i] + 1) = hi[i] - lo[i] + 1 := by simp only [u64w]; omega
      have p0 : 1 * 1 ≤ n * (hi[i] - lo[i] + 1) := Int.mul_le_mul n1 (by omega) (by omega) (by omega)
      have p1 : n * (hi[i] - lo[i] + 1) ≤ 65536 * 65536 := Int.mul_le_mul n2 (by omega) (by omega) (by omega)
      have hm : IntKind.u64.wrap (n * (hi[i] - lo[i] + 1)) = n * (hi[i] - lo[i] + 1) := by simp only [u64w]; omega
      rw [hw, hm]
      refine Ev.neg c ?_
      by_cases c2 : n * (hi[i] - lo[i] + 1) > 65536
      · rw [if_pos c2]
        exact Ev.pos c2 (Ev.now fun _ => rfl)
      · rw [if_neg c2, show wrap64 ((i:Int) + 1) = ((i+1 : Nat) : Int) by rw [w64 (by omega) (by omega)]; omega]
        exact Ev.neg c2 (ih (i + 1) _ (by omega) (by omega) (by omega) (by omega))
theorem points_l1 (hle : ∀ (i : Nat) (h : i < lo.length), lo[i] ≤ hi[i]'(h1 ▸ h)) : ∀ (d i : Nat) (n : Int), lo.length - i = d → i ≤ lo.length → 1 ≤ n → n ≤ 65536 →
    Ev (fun k => sequiturref32_points.l1 k lo hi n i) (match szG (lo.drop i) (hi.drop i) n with | some m => m | none => 65537) := by
  intro d
  induction d with
  | zero =>
    intro i n e1 e2 n1 n2
    rw [List.drop_eq_nil_of_le (by omega), List.drop_eq_nil_of_le (by omega)]
    refine Ev.succ ?_
    simp only [sequiturref32_points.l1]
    exact Ev.neg (by omega) (Ev.now fun _ => by simp only [szG])
  | succ d ih =>
    intro i n e1 e2 n1 n2
    have hi1 : i < lo.length := by omega
    have hi2 : i < hi.length := by omega
    have ra := r1 _ (List.getElem_mem hi1)
    have rb := r2 _ (List.getElem_mem hi2)
    have hle1 := hle i hi1
    rw [List.drop_eq_getElem_cons hi1, List.drop_eq_getElem_cons hi2]
    refine Ev.succ ?_
    simp only [sequiturref32_points.l1]
    rw [rd_at lo i hi1, rd_at hi i hi2, wide_u64 ra.1 rb.2 hle1]
    refine Ev.pos (by omega) (Ev.pos (by omega) (Ev.pos (by omega) ?_))
    simp only [szG]
    by_cases c : hi[i] - lo[i] ≥ 65536
    · rw [if_pos c]
      exact Ev.pos c (Ev.now fun _ => rfl)
    · rw [if_neg c]
      have hw : wrap64 (wrap64 (hi[i] - lo[i]) + 1) = hi[i] - lo[i] + 1 := by rw [w64 (n := hi[i] - lo[i]) (by omega) (by omega), w64 (by omega) (by omega)]
      have p0 : 1 * 1 ≤ n * (hi[i] - lo[i] + 1) := Int.mul_le_mul n1 (by omega) (by omega) (by omega)
      have p1 : n * (hi[i] - lo[i] + 1) ≤ 65536 * 65536 := Int.mul_le_mul n2 (by omega) (by omega) (by omega)
      have hm : wrap64 (n * (hi[i] - lo[i] + 1)) = n * (hi[i] - lo[i] + 1) := w64 (by omega) (by omega)
      rw [hw, hm]
      refine Ev.neg c ?_
      by_cases c2 : n * (hi[i] - lo[i] + 1) > 65536
      · rw [if_pos c2]
        exact Ev.pos c2 (Ev.now fun _ => rfl)
      · rw [if_neg c2, show wrap64 ((i:Int) + 1) = ((i+1 : Nat) : Int) by rw [w64 (by omega) (by omega)]; omega]
        exact Ev.neg c2 (ih (i + 1) _ (by omega) (by omega) (by omega) (by omega))
omit hl r1 r2 in
theorem leB_at : leB lo hi = true → ∀ (i : Nat) (h : i < lo.length), lo[i] ≤ hi[i]'(h1 ▸ h) := by
  revert hi
  induction lo with
  | nil => intro hi _ _ i h; simp at h
  | cons a lo ih =>
    intro hi h1 h i hi'
    cases hi with
    | nil => simp at h1
    | cons b hi =>
      simp only [leB, Bool.and_eq_true, decide_eq_true_eq] at h
      cases i with
      | zero => exact h.1
      | succ i => exact ih hi (by simpa using h1) h.2 i (by simpa using hi')
omit r1 r2 in
theorem size_l0 (R : Int × Int) (hR : leB lo hi = false → R = (0, 1)) (hgo : leB lo hi = true → Ev (fun k => box_size.l1 k lo hi 1 (lo.length : Int) 0) R) : ∀ (d i : Nat), lo.length - i = d → i ≤ lo.length → leB lo hi = leB (lo.drop i) (hi.drop i) →
    Ev (fun k => box_size.l0 k lo hi (lo.length : Int) i) R := by
  intro d
  induction d with
  | zero =>
    intro i e1 e2 e3
    rw [List.drop_eq_nil_of_le (by omega), List.drop_eq_nil_of_le (by omega)] at e3
    refine Ev.succ ?_
    simp only [box_size.l0]
    exact Ev.neg (by omega) (hgo e3)
  | succ d ih =>
    intro i e1 e2 e3
    have hi1 : i < lo.length := by omega
    have hi2 : i < hi.length := by omega
    rw [List.drop_eq_getElem_cons hi1, List.drop_eq_getElem_cons hi2] at e3
    simp only [leB] at e3
    refine Ev.succ ?_
    simp only [box_size.l0]
    rw [rd_at lo i hi1, rd_at hi i hi2]
    refine Ev.pos (by omega) (Ev.pos (by omega) (Ev.pos (by omega) (Ev.pos (by omega) ?_)))
    by_cases c : lo[i] > hi[i]
    · rw [decide_eq_false (show ¬ lo[i] ≤ hi[i] by omega), Bool.false_and] at e3
      rw [hR e3]
      exact Ev.pos c (Ev.now fun _ => rfl)
    · rw [decide_eq_true (show lo[i] ≤ hi[i] by omega), Bool.true_and] at e3
      rw [show wrap64 ((i:Int) + 1) = ((i+1 : Nat) : Int) by rw [w64 (by omega) (by omega)]; omega]
      exact Ev.neg c (ih (i + 1) (by omega) (by omega) e3)
omit r1 r2 in
theorem points_l0 (R : Int) (hR : leB lo hi = false → R = 0) (hgo : leB lo hi = true → Ev (fun k => sequiturref32_points.l1 k lo hi 1 0) R) : ∀ (d i : Nat), lo.length - i = d → i ≤ lo.length → leB lo hi = leB (lo.drop i) (hi.drop i) →
    Ev (fun k => sequiturref32_points.l0 k lo hi 1 i) R := by
  intro d
  induction d with
  | zero =>
    intro i e1 e2 e3
    rw [List.drop_eq_nil_of_le (by omega), List.drop_eq_nil_of_le (by omega)] at e3
    refine Ev.succ ?_
    simp only [sequiturref32_points.l0]
    exact Ev.neg (by omega) (hgo e3)
  | succ d ih =>
    intro i e1 e2 e3
    have hi1 : i < lo.length := by omega
    have hi2 : i < hi.length := by omega
    rw [List.drop_eq_getElem_cons hi1, List.drop_eq_getElem_cons hi2] at e3
    simp only [leB] at e3
    refine Ev.succ ?_
    simp only [sequiturref32_points.l0]
    rw [rd_at lo i hi1, rd_at hi i hi2]
    refine Ev.pos (by omega) (Ev.pos (by omega) (Ev.pos (by omega) ?_))
    by_cases c : lo[i] > hi[i]
    · rw [decide_eq_false (show ¬ lo[i] ≤ hi[i] by omega), Bool.false_and] at e3
      rw [hR e3]
      exact Ev.pos c (Ev.now fun _ => rfl)
    · rw [decide_eq_true (show lo[i] ≤ hi[i] by omega), Bool.true_and] at e3
      rw [show wrap64 ((i:Int) + 1) = ((i+1 : Nat) : Int) by rw [w64 (by omega) (by omega)]; omega]
      exact Ev.neg c (ih (i + 1) (by omega) (by omega) e3)
end
theorem size_ev (lo hi : List Int) (hl : lo.length ≤ 1000000) (r1 : I64 lo) (r2 : I64 hi) : Ev (fun k => box_size.f k lo hi) (szD lo hi) := by
  unfold box_size.f szD
  by_cases h1 : lo.length = hi.length
  · refine Ev.pos (by omega) (size_l0 lo hi h1 hl _ (fun h => by rw [if_neg (by rw [h]; simp)]) (fun h => ?_) _ 0 rfl (by omega) rfl)
    rw [if_pos ⟨h1, h⟩]
    exact size_l1 lo hi h1 hl r1 r2 (leB_at lo hi h1 h) _ 0 1 rfl (by omega) (by omega) (by omega)
  · rw [if_neg (fun h => h1 h.1)]
    exact Ev.neg (by omega) (Ev.now fun _ => rfl)
theorem points_ev (lo hi : List Int) (hl : lo.length ≤ 1000000) (r1 : I64 lo) (r2 : I64 hi) : Ev (fun k => sequiturref32_points.f k lo hi) (ptD lo hi) := by
  unfold sequiturref32_points.f ptD
  by_cases h1 : lo.length = hi.length
  · refine Ev.pos (by omega) (points_l0 lo hi h1 hl _ (fun h => by rw [if_neg (by rw [h]; simp)]) (fun h => ?_) _ 0 rfl (by omega) rfl)
    rw [if_pos ⟨h1, h⟩]
    exact points_l1 lo hi h1 hl r1 r2 (leB_at lo hi h1 h) _ 0 1 rfl (by omega) (by omega) (by omega)
  · rw [if_neg (fun h => h1 h.1)]
    exact Ev.neg (by omega) (Ev.now fun _ => rfl)
theorem szG_le : ∀ {lo hi : List Int} {n m : Int}, n ≤ 65536 → szG lo hi n = some m → m ≤ 65536 := by
  intro lo
  induction lo with
  | nil => intro hi n m hn h; cases hi <;> (simp [szG] at h; omega)
  | cons a lo ih =>
    intro hi n m hn h
    cases hi with
    | nil => simp [szG] at h; omega
    | cons b hi =>
      simp only [szG] at h
      split at h
      · cases h
      split at h
      · cases h
      exact ih (by omega) h
/-- What the size says where it is told. -/
theorem szD_ok {lo hi : List Int} {n : Int} (h : szD lo hi = (n, 0)) : inB lo hi lo ∧ n = bxN lo hi ∧ 1 ≤ n ∧ n ≤ 65536 := by
  unfold szD at h
  split at h
  · rename_i hc
    have hB := leB_inB hc.1 hc.2
    cases hs : szG lo hi 1 with
    | none => rw [hs] at h; simp at h
    | some m =>
      rw [hs] at h
      simp at h
      subst h
      have := szG_val hs
      have hp := bxN_pos hB
      exact ⟨hB, by omega, by omega, szG_le (by omega) hs⟩
  · simp at h
theorem szD_cases (lo hi : List Int) : ((szD lo hi).2 ≠ 0 → (szD lo hi).1 = 0) ∧ ((szD lo hi).2 = 0 → (szD lo hi).1 ≠ 0) := by
  constructor
  · unfold szD
    split
    · split <;> simp
    · simp
  · intro h
    have := (szD_ok (show szD lo hi = ((szD lo hi).1, 0) by rw [← h])).2.2.1
    omega
section
variable (l : List S70) (hl : l.length ≤ 1000000) (hR : ∀ q ∈ l, R64 q.f0.f0 ∧ M64 q.f0.f1) (hm : ∀ q ∈ l, q.f0.f1.length ≤ 1000000) (lo hi : List Int) (hlo : lo.length ≤ 1000000) (r1 : I64 lo) (r2 : I64 hi)
include hl hR hm hlo r1 r2
omit hl hR hm in
theorem points32_l0 : ∀ (c : Nat) (x : List Int) (out : List (List Int)), inB lo hi x → I64 x → bxC lo hi x = (c : Int) → out.length + c ≤ 1000000 → Ev (fun k => sequiturref32_Points.l0 k lo hi out x true) (out ++ ptsF lo hi c x) := by
  intro c
  induction c with
  | zero => intro x out hB _ h1 _; have := bxC_pos hB; omega
  | succ c ih =>
    intro x out hB hx h1 h2
    obtain ⟨n1, n2⟩ := inB_len hB
    have hN := next_ev hB hx r2 (by omega)
    refine Ev.succ ?_
    simp only [sequiturref32_Points.l0, ptsF]
    refine Ev.pos trivial (Ev.pos (by omega) (Ev.bind hN ?_))
    cases hn : nxL lo hi x with
    | some y =>
      obtain ⟨g1, g2⟩ := nx_some hB hn
      have := ih y (out ++ [x]) g1 (nx_I64 hB r1 r2 hx hn) (by omega) (by simp; omega)
      refine this.val ?_
      simp
    | none =>
      refine Ev.succ ?_
      simp only [sequiturref32_Points.l0]
      exact Ev.neg (by simp) (Ev.now fun _ => rfl)
/-- All the points. -/
def ptsD (lo hi : List Int) : List (List Int) := if (szD lo hi).2 = 0 then ptsF lo hi (bxN lo hi).toNat lo else []
omit hl hR hm in
theorem points32_ev : Ev (fun k => sequiturref32_Points.f k lo hi) (ptsD lo hi) := by
  refine Ev.bind (points_ev lo hi hlo r1 r2) ?_
  have hno : ptD lo hi = 0 ∨ ptD lo hi > 65536 → ptsD lo hi = [] := by
    intro h
    unfold ptsD
    refine if_neg (fun e => ?_)
    obtain ⟨g1, g2, g3, g4⟩ := szD_ok (show szD lo hi = ((szD lo hi).1, 0) by rw [← e])
    have he : ptD lo hi = (szD lo hi).1 := by
      unfold szD at e
      unfold ptD szD
      split at e
      · rename_i hc
        rw [if_pos hc, if_pos hc]
        cases hs : szG lo hi 1 with
        | none => rw [hs] at e; simp at e
        | some m => rfl
      · simp at e
    omega
  have hj : ∀ R, R = ([] : List (List Int)) → Ev (fun k => sequiturref32_Points.j0 k lo hi true) R := fun R hR => by
    subst hR
    refine Ev.succ ?_
    simp only [sequiturref32_Points.j0]
    exact Ev.pos trivial (Ev.now fun _ => rfl)
  by_cases c : ptD lo hi = 0
  · exact Ev.pos c (hj _ (hno (.inl c)))
  · refine Ev.neg c ?_
    by_cases c2 : ptD lo hi > 65536
    · rw [decide_eq_true c2]
      exact hj _ (hno (.inr c2))
    · rw [decide_eq_false c2]
      refine Ev.succ ?_
      simp only [sequiturref32_Points.j0]
      refine Ev.neg (by simp) ?_
      have hc : (szD lo hi).2 = 0 ∧ ptD lo hi = (szD lo hi).1 := by
        unfold ptD at c c2 ⊢
        unfold szD
        split at c
        · rename_i hc
          rw [if_pos hc] at c2 ⊢
          rw [if_pos hc]
          cases hs : szG lo hi 1 with
          | none => rw [hs] at c2; simp at c2
          | some m => exact ⟨rfl, rfl⟩
        · exact absurd rfl c
      obtain ⟨g1, g2, g3, g4⟩ := szD_ok (show szD lo hi = ((szD lo hi).1, 0) by rw [← hc.1])
      have := points32_l0 lo hi hlo r1 r2 (bxN lo hi).toNat lo [] g1 r1 (by rw [bxC_lo g1]; omega) (by simp; omega)
      unfold ptsD
      rw [if_pos hc.1]
      exact this
end
theorem few_l1 (l : List S70) (lo hi : List Int) (h1 : lo.length ≤ 1000000) (most : Int) : ∀ (d i : Nat) (n : Int), lo.length - i = d → i ≤ lo.length → ∃ b, Ev (fun k => sequiturlaw32_Few.l1 k l lo hi most n i) b := by
  intro d
  induction d with
  | zero =>
    intro i n e1 e2
    by_cases c : n ≤ most
    · refine ⟨true, Ev.succ ?_⟩
      simp only [sequiturlaw32_Few.l1]
      refine Ev.neg (by omega) (Ev.succ ?_)
      simp only [sequiturlaw32_Few.j3]
      exact Ev.neg (by simp) (Ev.pos c (Ev.now fun _ => rfl))
    · refine ⟨decide (n > 65536), Ev.succ ?_⟩
      simp only [sequiturlaw32_Few.l1]
      refine Ev.neg (by omega) (Ev.succ ?_)
      simp only [sequiturlaw32_Few.j3]
      exact Ev.neg (by simp) (Ev.neg c (Ev.now fun _ => rfl))
  | succ d ih =>
    intro i n e1 e2
    have hi1 : i < lo.length := by omega
    by_cases c0 : i < hi.length
    · have key : ∃ b, Ev (fun k => if rd lo (i : Int) > rd hi (i : Int) then some true else if (IntKind.u64.wrap ((IntKind.u64.wrap (rd hi (i : Int))) - (IntKind.u64.wrap (rd lo (i : Int))))) ≥ 100000 then some (decide ((l.length : Int) ≤ 20)) else if n > 100000 then some (decide ((l.length : Int) ≤ 20)) else sequiturlaw32_Few.l1 k l lo hi most (wrap64 (n * (wrap64 ((wrap64 (IntKind.u64.wrap ((IntKind.u64.wrap (rd hi (i : Int))) - (IntKind.u64.wrap (rd lo (i : Int)))))) + 1)))) (wrap64 ((i : Int) + 1))) b := by
        rw [show wrap64 ((i:Int) + 1) = ((i+1 : Nat) : Int) by rw [w64 (by omega) (by omega)]; omega]
        by_cases c1 : rd lo (i : Int) > rd hi (i : Int)
        · exact ⟨_, Ev.pos c1 (Ev.now fun _ => rfl)⟩
        by_cases c2 : (IntKind.u64.wrap ((IntKind.u64.wrap (rd hi (i : Int))) - (IntKind.u64.wrap (rd lo (i : Int))))) ≥ 100000
        · exact ⟨_, Ev.neg c1 (Ev.pos c2 (Ev.now fun _ => rfl))⟩
        by_cases c3 : n > 100000
        · exact ⟨_, Ev.neg c1 (Ev.neg c2 (Ev.pos c3 (Ev.now fun _ => rfl)))⟩
        obtain ⟨b, hb⟩ := ih (i + 1) (wrap64 (n * (wrap64 ((wrap64 (IntKind.u64.wrap ((IntKind.u64.wrap (rd hi (i : Int))) - (IntKind.u64.wrap (rd lo (i : Int)))))) + 1)))) (by omega) (by omega)
        exact ⟨b, Ev.neg c1 (Ev.neg c2 (Ev.neg c3 hb))⟩
      obtain ⟨b, hb⟩ := key
      refine ⟨b, Ev.succ ?_⟩
      simp only [sequiturlaw32_Few.l1]
      rw [decide_eq_true (show (i : Int) < (hi.length : Int) by omega)]
      refine Ev.pos (by omega) (Ev.succ ?_)
      simp only [sequiturlaw32_Few.j3]
      exact Ev.pos trivial (Ev.pos (by omega) (Ev.pos (by omega) (Ev.pos (by omega) hb)))
    · by_cases c : n ≤ most
      · refine ⟨true, Ev.succ ?_⟩
        simp only [sequiturlaw32_Few.l1]
        rw [decide_eq_false (show ¬ (i : Int) < (hi.length : Int) by omega)]
        refine Ev.pos (by omega) (Ev.succ ?_)
        simp only [sequiturlaw32_Few.j3]
        exact Ev.neg (by simp) (Ev.pos c (Ev.now fun _ => rfl))
      · refine ⟨decide (n > 65536), Ev.succ ?_⟩
        simp only [sequiturlaw32_Few.l1]
        rw [decide_eq_false (show ¬ (i : Int) < (hi.length : Int) by omega)]
        refine Ev.pos (by omega) (Ev.succ ?_)
        simp only [sequiturlaw32_Few.j3]
        exact Ev.neg (by simp) (Ev.neg c (Ev.now fun _ => rfl))
theorem few_l0 (l : List S70) (lo hi : List Int) (hl : l.length ≤ 20) (h1 : lo.length ≤ 1000000) (most : Int) : ∀ (d i : Nat), l.length - i = d → i ≤ l.length → (∀ q ∈ l.take i, q.f0.f1.length ≤ 20) →
    ∃ b, Ev (fun k => sequiturlaw32_Few.l0 k l lo hi most l (l.length : Int) i) b ∧ (b = true → ∀ q ∈ l, q.f0.f1.length ≤ 20) := by
  intro d
  induction d with
  | zero =>
    intro i e1 e2 e3
    obtain ⟨b, hb⟩ := few_l1 l lo hi h1 most _ 0 1 rfl (by omega)
    refine ⟨b, Ev.succ ?_, fun _ => ?_⟩
    · simp only [sequiturlaw32_Few.l0]
      exact Ev.neg (by omega) hb
    · rw [List.take_of_length_le (by omega)] at e3
      exact e3
  | succ d ih =>
    intro i e1 e2 e3
    have hi' : i < l.length := by omega
    by_cases c : ((l[i].f0.f1).length : Int) > 20
    · refine ⟨false, Ev.succ ?_, fun h => by cases h⟩
      simp only [sequiturlaw32_Few.l0]
      rw [rdI_at l i hi']
      exact Ev.pos (by omega) (Ev.pos (by omega) (Ev.pos (by omega) (Ev.pos c (Ev.now fun _ => rfl))))
    · obtain ⟨b, hb, hq⟩ := ih (i + 1) (by omega) (by omega) (by
        rw [List.take_succ_eq_append_getElem hi']
        intro q hq
        rcases List.mem_append.1 hq with hq | hq
        · exact e3 q hq
        · simp at hq; subst hq; omega)
      refine ⟨b, Ev.succ ?_, hq⟩
      simp only [sequiturlaw32_Few.l0]
      rw [rdI_at l i hi', show wrap64 ((i:Int) + 1) = ((i+1 : Nat) : Int) by rw [w64 (by omega) (by omega)]; omega]
      exact Ev.pos (by omega) (Ev.pos (by omega) (Ev.pos (by omega) (Ev.neg c hb)))
theorem few_ev (l : List S70) (lo hi : List Int) (most : Int) : ∃ b, Ev (fun k => sequiturlaw32_Few.f k l lo hi most) b ∧ (b = true → l.length ≤ 20 ∧ lo.length ≤ 10 ∧ hi.length ≤ 10 ∧ ∀ q ∈ l, q.f0.f1.length ≤ 20) := by
  have hj : Ev (fun k => sequiturlaw32_Few.j0 k l lo hi most true) false := by
    refine Ev.succ ?_
    simp only [sequiturlaw32_Few.j0]
    exact Ev.pos trivial (Ev.now fun _ => rfl)
  unfold sequiturlaw32_Few.f
  by_cases c1 : (l.length : Int) > 20
  · exact ⟨false, Ev.pos c1 hj, fun h => by cases h⟩
  by_cases c2 : (lo.length : Int) > 10
  · exact ⟨false, Ev.neg c1 (Ev.pos c2 hj), fun h => by cases h⟩
  by_cases c3 : (hi.length : Int) > 10
  · refine ⟨false, Ev.neg c1 (Ev.neg c2 ?_), fun h => by cases h⟩
    rw [decide_eq_true c3]
    exact hj
  obtain ⟨b, hb, hq⟩ := few_l0 l lo hi (by omega) (by omega) most _ 0 rfl (by omega) (by simp)
  refine ⟨b, Ev.neg c1 (Ev.neg c2 ?_), fun h => ⟨by omega, by omega, by omega, hq h⟩⟩
  rw [decide_eq_false c3]
  refine Ev.succ ?_
  simp only [sequiturlaw32_Few.j0]
  exact Ev.neg (by simp) hb
theorem alive32_ev : Ev (fun k => sequiturlaw32_alive.f k) true := Ev.mono 200 sequiturlaw32_alive.mono (by decide +kernel)
open Go.ChangeShapes Go.WideShapes
theorem list_of {α : Type} (n : Nat) (p : Nat → α → Prop) (h : ∀ i, i < n → ∃ x, p i x) : ∃ l : List α, l.length = n ∧ ∀ i x, l[i]? = some x → p i x := by
  induction n with
  | zero => exact ⟨[], rfl, by simp⟩
  | succ n ih =>
    obtain ⟨l, hl, hp⟩ := ih (fun i hi => h i (by omega))
    obtain ⟨x, hx⟩ := h n (by omega)
    refine ⟨l ++ [x], by simp [hl], fun i y hy => ?_⟩
    rcases Nat.lt_or_ge i n with q | q
    · rw [List.getElem?_append_left (by omega)] at hy; exact hp i y hy
    · rw [List.getElem?_append_right (by omega)] at hy
      have : i - l.length = 0 := by
        rcases Nat.eq_zero_or_pos (i - l.length) with e | e
        · exact e
        · rw [List.getElem?_eq_none (by simp; omega)] at hy; cases hy
      rw [this] at hy
      obtain rfl : x = y := by simpa using hy
      rw [show i = n by omega]; exact hx
/-- An argument that is a slice, opened: a list of what its elements are. -/
theorem open_row {H : Type} {enc : TypeId × Value → H} {W : World} {held : Bool} {α : Type} (d : Kd α) (Q : α → Prop) {t e : TypeId} {spare : Nat → Bool} {fuel : Nat} {A : Option Addr} {n c : Nat} {x : DataW H × List MemPlace}
    (ht : Try.prog.underlying t = some (.slice e)) (hsz : Try.prog.cellsOf e = d.sz)
    (ho : ∀ m cs y, DataW.trod enc Try.prog W 0 spare held m e cs = some y → ∃ x, d.K W x cs ∧ Q x)
    (h : DataW.trod enc Try.prog W 0 spare held fuel t [.slice A n c] = some x) :
    ∃ l : List α, l.length = n ∧ n ≤ c ∧ c ≤ maxLen ∧ d.C W A n l ∧ ∀ x ∈ l, Q x := by
  rcases Go.Deep.open_slice ht h with ⟨hcs, _⟩ | ⟨a, len, cap, m, n', D, Pl, hcs, _, hl, hm, hmm, _, hi⟩
  · simp at hcs
    obtain ⟨rfl, rfl, rfl⟩ := hcs
    exact ⟨[], rfl, Nat.le_refl _, Nat.zero_le _, Kd.C_nil d W, by simp⟩
  · simp at hcs
    obtain ⟨rfl, rfl, rfl⟩ := hcs
    have hmn : n ≤ m := by rw [hmm]; split <;> omega
    obtain ⟨l, h1, h2⟩ := list_of n (fun i x => (∃ cs, cs.length = d.sz ∧ d.K W x cs ∧ ∀ j u, cs[j]? = some u → W.cell? (a.add (i * d.sz + j)) = some u) ∧ Q x) (fun i hin => by
      obtain ⟨cs, hc, hx⟩ := hi i (by omega)
      obtain ⟨x, hK, hQ⟩ := ho _ _ _ hx
      obtain ⟨_, hlen, hat⟩ := World.cells?_some hc
      refine ⟨x, ⟨cs, hlen.trans hsz, hK, fun j u hj => ?_⟩, hQ⟩
      have hjl : j < cs.length := by
        rcases Nat.lt_or_ge j cs.length with q | q
        · exact q
        · rw [List.getElem?_eq_none q] at hj; cases hj
      rw [← hj, ← hat j (by omega), hsz, Go.Deep.add_add])
    refine ⟨l, h1, hl, hm, ⟨h1, ?_, fun _ => ⟨a, rfl, fun j p hj => (h2 j p hj).1⟩⟩, fun x hx => ?_⟩
    · have : maxLen = 9223372036854775807 := rfl
      omega
    · obtain ⟨i, hi', he⟩ := List.getElem_of_mem hx
      exact (h2 i x (by rw [List.getElem?_eq_getElem hi', he])).2
theorem open_int1 {H : Type} {enc : TypeId × Value → H} {W : World} {held : Bool} {spare : Nat → Bool} {m : Nat} {e : TypeId} (hu : Try.prog.underlying e = some (.int .i64)) (cs : List Value) (y : DataW H × List MemPlace) (h : DataW.trod enc Try.prog W 0 spare held m e cs = some y) :
    ∃ x : Int, (Kd.int .i64).K W x cs ∧ (-9223372036854775808 ≤ x ∧ x ≤ 9223372036854775807) := by
  obtain ⟨n, rfl, _, hw⟩ := DataW.trod_int hu h
  exact ⟨n, rfl, wf64 hw⟩
theorem open_ints1 {H : Type} {enc : TypeId × Value → H} {W : World} {held : Bool} {spare : Nat → Bool} {fuel : Nat} {t e : TypeId} {A : Option Addr} {n c : Nat} {x : DataW H × List MemPlace} (hu : Try.prog.underlying t = some (.slice e)) (he : Try.prog.underlying e = some (.int .i64)) (hc : Try.prog.cellsOf e = 1)
    (h : DataW.trod enc Try.prog W 0 spare held fuel t [.slice A n c] = some x) :
    ∃ l : List Int, l.length = n ∧ n ≤ c ∧ c ≤ maxLen ∧ Kd.C (Kd.int .i64) W A n l ∧ I64 l :=
  open_row (Kd.int .i64) _ hu hc (fun _ cs y h => open_int1 he cs y h) h
theorem aliveT_ev : Ev (fun k => aliveT k) true := Ev.bind alive32_ev (Ev.pos rfl (Ev.now fun _ => rfl))
theorem Ev.uniq {α : Type} {f : Nat → Option α} {u v : α} (h1 : Ev f u) (h2 : Ev f v) : u = v := by
  obtain ⟨K1, h1⟩ := h1
  obtain ⟨K2, h2⟩ := h2
  have a := h1 (max K1 K2) (by omega)
  have b := h2 (max K1 K2) (by omega)
  rw [a] at b
  exact Option.some.inj b
theorem fewp_l1 (l : List S70) (lo hi : List Int) (h1 : lo.length = hi.length) (hl : lo.length ≤ 1000000) (r1 : I64 lo) (r2 : I64 hi) (hle : ∀ (i : Nat) (h : i < lo.length), lo[i] ≤ hi[i]'(h1 ▸ h)) (most m : Int) (hm : m ≤ 65536) : ∀ (d i : Nat) (n : Int), lo.length - i = d → i ≤ lo.length → 1 ≤ n → n ≤ 65536 → szG (lo.drop i) (hi.drop i) n = some m →
    Ev (fun k => sequiturlaw32_Few.l1 k l lo hi most n i) (decide (m ≤ most)) := by
  intro d
  induction d with
  | zero =>
    intro i n e1 e2 n1 n2 e3
    rw [List.drop_eq_nil_of_le (by omega), List.drop_eq_nil_of_le (by omega)] at e3
    obtain rfl : n = m := by simpa [szG] using e3
    refine Ev.succ ?_
    simp only [sequiturlaw32_Few.l1]
    refine Ev.neg (by omega) (Ev.succ ?_)
    simp only [sequiturlaw32_Few.j3]
    by_cases c : n ≤ most
    · exact Ev.neg (by simp) (Ev.pos c (Ev.now fun _ => by rw [decide_eq_true c]))
    · exact Ev.neg (by simp) (Ev.neg c (Ev.now fun _ => by rw [decide_eq_false c, decide_eq_false (show ¬ n > 65536 by omega)]))
  | succ d ih =>
    intro i n e1 e2 n1 n2 e3
    have hi1 : i < lo.length := by omega
    have hi2 : i < hi.length := by omega
    have ra := r1 _ (List.getElem_mem hi1)
    have rb := r2 _ (List.getElem_mem hi2)
    have hle1 := hle i hi1
    rw [List.drop_eq_getElem_cons hi1, List.drop_eq_getElem_cons hi2] at e3
    simp only [szG] at e3
    split at e3
    · cases e3
    rename_i c1
    split at e3
    · cases e3
    rename_i c2
    refine Ev.succ ?_
    simp only [sequiturlaw32_Few.l1]
    rw [decide_eq_true (show (i : Int) < (hi.length : Int) by omega)]
    refine Ev.pos (by omega) (Ev.succ ?_)
    simp only [sequiturlaw32_Few.j3]
    rw [rd_at lo i hi1, rd_at hi i hi2, wide_u64 ra.1 rb.2 hle1]
    have hw : wrap64 (wrap64 (hi[i] - lo[i]) + 1) = hi[i] - lo[i] + 1 := by rw [w64 (n := hi[i] - lo[i]) (by omega) (by omega), w64 (by omega) (by omega)]
    have p0 : 1 * 1 ≤ n * (hi[i] - lo[i] + 1) := Int.mul_le_mul n1 (by omega) (by omega) (by omega)
    have hmm : wrap64 (n * (hi[i] - lo[i] + 1)) = n * (hi[i] - lo[i] + 1) := w64 (by omega) (by omega)
    rw [hw, hmm, show wrap64 ((i:Int) + 1) = ((i+1 : Nat) : Int) by rw [w64 (by omega) (by omega)]; omega]
    exact Ev.pos trivial (Ev.pos (by omega) (Ev.pos (by omega) (Ev.pos (by omega) (Ev.neg (by omega) (Ev.neg (by omega) (Ev.neg (by omega) (ih (i + 1) _ (by omega) (by omega) (by omega) (by omega) e3)))))))
theorem few_pts (lo hi : List Int) (n1 : lo.length ≤ 10) (n2 : hi.length ≤ 10) (r1 : I64 lo) (r2 : I64 hi) {most m : Int} (hs : szD lo hi = (m, 0)) (hb : Ev (fun k => sequiturlaw32_Few.f k ([] : List S70) lo hi most) true) : m ≤ most := by
  have hok := szD_ok hs
  unfold szD at hs
  split at hs
  · rename_i hc
    cases hg : szG lo hi 1 with
    | none => rw [hg] at hs; simp at hs
    | some m' =>
      rw [hg] at hs
      simp at hs
      subst hs
      have h := fewp_l1 ([] : List S70) lo hi hc.1 (by omega) r1 r2 (leB_at lo hi hc.1 hc.2) most m' hok.2.2.2 _ 0 1 rfl (by omega) (by omega) (by omega) (by rw [List.drop_zero, List.drop_zero]; exact hg)
      have hf : Ev (fun k => sequiturlaw32_Few.f k ([] : List S70) lo hi most) (decide (m' ≤ most)) := by
        unfold sequiturlaw32_Few.f
        refine Ev.neg (by simp) (Ev.neg (by omega) ?_)
        rw [decide_eq_false (show ¬ (hi.length : Int) > 10 by omega)]
        refine Ev.succ ?_
        simp only [sequiturlaw32_Few.j0]
        refine Ev.neg (by simp) (Ev.succ ?_)
        simp only [sequiturlaw32_Few.l0]
        exact Ev.neg (by simp) h
      exact of_decide_eq_true (hf.uniq hb)
  · simp at hs
section
variable (lo hi : List Int) (hlo : lo.length ≤ 1000000) (r1 : I64 lo) (r2 : I64 hi)
include hlo r1 r2
/-- What is taken. -/
theorem take_l0 (most n : Int) (T : Nat) (hT : (T : Int) = if most < 3001 then most else 3001) : ∀ (c : Nat) (x : List Int) (j : Int) (own : List (List Int)), inB lo hi x → I64 x → bxC lo hi x = (c : Int) → n - j = (c : Int) → own.length ≤ T →
    Ev (fun k => sequiturlaw32_BoxPoints.l0 k lo hi most x n j own) (own ++ (ptsF lo hi c x).take (T - own.length)) := by
  have hTl : T ≤ 3001 := by split at hT <;> omega
  have hTm : (T : Int) ≤ most := by split at hT <;> omega
  have hlim : ∀ own : List (List Int), own.length ≤ T → (IntKind.u64.wrap (own.length : Int) ≥ most ∨ (own.length : Int) > 3000 ↔ own.length = T) := by
    intro own h
    have e : IntKind.u64.wrap (own.length : Int) = (own.length : Int) := by simp only [u64w]; omega
    rw [e]
    split at hT <;> omega
  have hstop : ∀ (own : List (List Int)) (k : Nat) (R : Option (List (List Int))), own.length = T → (if IntKind.u64.wrap (own.length : Int) ≥ most then some own else if (own.length : Int) > 3000 then some own else R) = some own := by
    intro own k R h
    rcases (hlim own (by omega)).2 h with h | h
    · rw [if_pos h]
    · rw [if_pos h]; split <;> rfl
  intro c
  induction c with
  | zero => intro x j own hB _ h1 _ _; have := bxC_pos hB; omega
  | succ c ih =>
    intro x j own hB hx h1 h2 h3
    obtain ⟨n1, n2⟩ := inB_len hB
    have hS := step_ev hB hx r2 (by omega)
    refine Ev.succ ?_
    simp only [sequiturlaw32_BoxPoints.l0]
    refine Ev.pos (by omega) ?_
    by_cases cT : own.length = T
    · refine Ev.now fun k => ?_
      rw [hstop own k _ cT, cT, Nat.sub_self, List.take_zero, List.append_nil]
    · have hno : ¬ (IntKind.u64.wrap (own.length : Int) ≥ most ∨ (own.length : Int) > 3000) := fun h => cT ((hlim own h3).1 h)
      refine Ev.neg (fun h => hno (.inl h)) (Ev.neg (fun h => hno (.inr h)) (Ev.bind hS ?_))
      obtain ⟨t, ht⟩ : ∃ t, T - own.length = t + 1 := ⟨T - own.length - 1, by omega⟩
      simp only [ptsF]
      rw [ht, List.take_succ_cons]
      cases hn : nxL lo hi x with
      | some y =>
        obtain ⟨g1, g2⟩ := nx_some hB hn
        have := ih y (j + 1) (own ++ [x]) g1 (nx_I64 hB r1 r2 hx hn) (by omega) (by omega) (by simp; omega)
        refine this.val ?_
        rw [List.append_assoc]
        simp only [List.length_append, List.length_cons, List.length_nil, List.cons_append, List.nil_append]
        rw [show T - (own.length + (0 + 1)) = t by omega]
      | none =>
        have := nx_none hB hn
        refine Ev.succ ?_
        simp only [sequiturlaw32_BoxPoints.l0]
        exact Ev.neg (by omega) (Ev.now fun _ => by simp)
end
theorem ptsF_lens (lo hi : List Int) : ∀ (c : Nat) (x : List Int), inB lo hi x → ∀ y ∈ ptsF lo hi c x, y.length ≤ hi.length := by
  intro c
  induction c with
  | zero => intro x _ y hy; simp [ptsF] at hy
  | succ c ih =>
    intro x hB y hy
    simp only [ptsF] at hy
    rcases List.mem_cons.1 hy with rfl | hy
    · exact Nat.le_of_eq (inB_len hB).2
    · cases hn : nxL lo hi x with
      | some z => rw [hn] at hy; exact ih z (nx_some hB hn).1 y hy
      | none => rw [hn] at hy; simp at hy
theorem i64s_fuel (x : List Int) (hx : x.length ≤ 1000) : ∀ (k i : Nat), x.length - i < k → sequiturbase_Int64s.l0 k x x i = some true := by
  intro k
  induction k with
  | zero => intro i h; omega
  | succ k ih =>
    intro i h
    simp only [sequiturbase_Int64s.l0]
    by_cases c : (i : Int) < (x.length : Int)
    · rw [if_pos c, if_pos (by omega), if_pos (by trivial), show wrap64 ((i:Int) + 1) = ((i+1 : Nat) : Int) by rw [w64 (by omega) (by omega)]; omega]
      first | exact ih (i + 1) (by omega) | (rw [if_pos (by omega)]; exact ih (i + 1) (by omega))
    · rw [if_neg c]
theorem same_ev (all : List (List Int)) (h : ∀ y ∈ all, y.length ≤ 10) (t : Nat) : ∀ k, 100 ≤ k → sequiturlaw32_BoxPoints.same k (all.take t) all = true := by
  intro k hk
  unfold sequiturlaw32_BoxPoints.same
  rw [List.all_eq_true]
  intro i hi
  have hi' := List.mem_range.1 hi
  rw [List.length_take] at hi'
  have h1 : i < all.length := by omega
  have e1 : rd_L6 (all.take t) (i : Int) = all[i] := by
    have h2 : i < (all.take t).length := by rw [List.length_take]; omega
    show (all.take t).getD ((i : Int)).toNat [] = all[i]
    rw [show ((i : Int)).toNat = i by omega, List.getD_eq_getElem?_getD, List.getElem?_eq_getElem h2, List.getElem_take]
    rfl
  have e2 : rd_L6 all (i : Int) = all[i] := by simp [rd_L6, h1]
  rw [e1, e2, decide_eq_true h1, Bool.true_and]
  have hl := h _ (List.getElem_mem h1)
  unfold sequiturbase_Int64s.f
  have := i64s_fuel all[i] (by omega) k 0 (by omega)
  rw [if_pos rfl]
  simpa using this
theorem BoxPoints_pure (lo hi : List Int) (most : Int) (hm0 : 0 ≤ most) (r1 : I64 lo) (r2 : I64 hi) : ∃ k, sequiturlaw32_BoxPoints.f k lo hi most = some true := by
  obtain ⟨b, hb, hp⟩ := few_ev ([] : List S70) lo hi 2000
  refine Ev.at_ (f := fun k => sequiturlaw32_BoxPoints.f k lo hi most) (Ev.bind aliveT_ev (Ev.bind hb ?_))
  by_cases cb : b = true
  · subst cb
    obtain ⟨n1, n2, n3, n4⟩ := hp rfl
    refine Ev.pos rfl (Ev.bind (points32_ev lo hi (by omega) r1 r2) (Ev.bind (size_ev lo hi (by omega) r1 r2) ?_))
    have h6 : (szD lo hi).1 ≤ 65536 := by
      by_cases e : (szD lo hi).2 = 0
      · exact (szD_ok (show szD lo hi = ((szD lo hi).1, 0) by rw [← e])).2.2.2
      · rw [(szD_cases lo hi).1 e]; omega
    refine Ev.pos ⟨h6, by omega, by omega⟩ ?_
    obtain ⟨T, hT⟩ : ∃ T : Nat, (T : Int) = if most < 3001 then most else 3001 := ⟨(if most < 3001 then most else 3001).toNat, by split <;> omega⟩
    have hOwn : Ev (fun k => if (szD lo hi).2 = 0 then sequiturlaw32_BoxPoints.l0 k lo hi most lo (szD lo hi).1 0 [] else some []) ((ptsD lo hi).take T) := by
      by_cases e : (szD lo hi).2 = 0
      · obtain ⟨g1, g2, g3, g4⟩ := szD_ok (show szD lo hi = ((szD lo hi).1, 0) by rw [← e])
        have := take_l0 lo hi (by omega) r1 r2 most (szD lo hi).1 T hT (bxN lo hi).toNat lo 0 [] g1 r1 (by rw [bxC_lo g1]; omega) (by omega) (by simp)
        refine Ev.pos e (this.val ?_)
        unfold ptsD
        rw [if_pos e]; simp
      · refine Ev.neg e (Ev.now fun _ => ?_)
        unfold ptsD
        rw [if_neg e]; simp
    have hsm : (ptsD lo hi).length ≤ 2000 ∧ ∀ y ∈ ptsD lo hi, y.length ≤ 10 := by
      unfold ptsD
      split
      · rename_i e
        have hs : szD lo hi = ((szD lo hi).1, 0) := by rw [← e]
        obtain ⟨g1, g2, g3, g4⟩ := szD_ok hs
        have := few_pts lo hi n2 n3 r1 r2 hs hb
        have hl := ptsF_len lo hi (bxN lo hi).toNat lo
        exact ⟨by omega, fun y hy => Nat.le_trans (ptsF_lens lo hi _ _ g1 y hy) n3⟩
      · exact ⟨by simp, by simp⟩
    refine Ev.bind hOwn ?_
    have hlen : ((ptsD lo hi).take T).length ≤ 2000 := by rw [List.length_take]; omega
    refine Ev.pos ⟨?_, by omega⟩ ?_
    · unfold sequiturlaw32_BoxPoints.n
      have e : IntKind.u64.wrap ((ptsD lo hi).length : Int) = ((ptsD lo hi).length : Int) := by simp only [u64w]; omega
      rw [e, List.length_take]
      split at hT
      · split
        · rw [w64 (by omega) (by omega)]; omega
        · omega
      · rw [if_neg (by omega)]; omega
    · obtain ⟨K, hK⟩ := aliveT_ev
      refine ⟨max K 100, fun k hk => ?_⟩
      show (if sequiturlaw32_BoxPoints.same k ((ptsD lo hi).take T) (ptsD lo hi) = true then aliveT k else none) = some true
      rw [if_pos (same_ev _ hsm.2 T k (by omega))]
      exact hK k (by omega)
  · exact Ev.neg cb aliveT_ev
end Go.Proofs.Ytkfbfgkdabljiaa.Pure
