/- What a system's methods come to (euclid.run and what it calls), walked by hand: they answer as the plain functions of the same names do, wherever those answer; no condition but what stands in each theorem. Printed in part by programs of this session. -/
import Derived.Test.YtjinmlpekecmbaaEu1
import Derived.Test.YtjinmlpekecmbaaEu2
namespace Go.Proofs.Ytjinmlpekecmbaa.PEuclidNone
open Go.RowKit Go.Proofs.YtjinmlpekecmbaaW.PrintWords Go.Proofs.YtjinmlpekecmbaaW.PrintLast Go.Proofs.YtjinmlpekecmbaaW.PrintMore
open Go.Proofs.YtjinmlpekecmbaaW.PrintWords renaming blk_drewN → zN, blk_drew → zD, blk_alloc → zA, below_alloc → yA, pw_below_drewN → yN, below_drew1 → yD, below_set → yS, gate_callee → zC
open Go.Proofs.YtjinmlpekecmbaaW.PrintWords.Aside0 renaming mk → zK
attribute [local go_sem] max2_int min2_int max_two min_two max_three min_three max_four min_four   -- for this text's walks alone
set_option linter.unusedVariables false
set_option linter.unusedSimpArgs false
/-! ### maps of the call's own -/
theorem eu_u118 : Try.prog.underlying 118 = some (.map 3 4) := by kernel_rfl
theorem eu_u119 : Try.prog.underlying 119 = some (.map 3 3) := by kernel_rfl
theorem eu_u3 : Try.prog.underlying 3 = some (.int .i64) := by kernel_rfl
theorem eu_u4 : Try.prog.underlying 4 = some .bool := by kernel_rfl
theorem eu_z3 (w : World) : (zeroValue 3).run Try.prog w = .ok (.int .i64 0) w := by kernel_rfl
theorem eu_z4 (w : World) : (zeroValue 4).run Try.prog w = .ok (.bool false) w := by kernel_rfl
theorem eu_k3 : Go.Maps.Keyed Try.prog 3 := Go.Maps.int_keyed eu_u3
theorem eu_wf {p : Int} (h0 : 0 ≤ p) (h1 : p ≤ 64) : (Lit.int .i64 p).wf = true := by
  simp only [Lit.wf, IntKind.min, IntKind.max, Bool.and_eq_true, decide_eq_true_eq]
  constructor <;> (simp [IntKind.signed, IntKind.bits]; omega)
/-- Block g is a map of at most n entries, from numbers to truth values. -/
def FMap (W : World) (g n : Nat) (f : Int → Bool) : Prop := ∃ D : DataW Unit, W.ownsMap Try.prog 3 (plainElem Try.prog 4) g n D ∧ ∀ p, (Lit.int .i64 p).wf = true → D.atKey (.int .i64 p) (.lit (.bool false)) = .lit (.bool (f p))
/-- Block g is a map of at most n entries, from numbers to numbers. -/
def IMap (W : World) (g n : Nat) (f : Int → Int) : Prop := ∃ D : DataW Unit, W.ownsMap Try.prog 3 (plainElem Try.prog 3) g n D ∧ ∀ p, (Lit.int .i64 p).wf = true → D.atKey (.int .i64 p) (.lit (.int .i64 0)) = .lit (.int .i64 (f p))
theorem own_step {W W' : World} {k : TypeId} {R : Value → Option (DataW Unit × List MemPlace)} {g n : Nat} {D : DataW Unit} (h : W.ownsMap Try.prog k R g n D) (e : W'.heap[g]? = W.heap[g]?) : W'.ownsMap Try.prog k R g n D := by
  obtain ⟨es, clock, hb, r⟩ := h
  exact ⟨es, clock, e.trans hb, r⟩
theorem FMap.step {W W' : World} {g n : Nat} {f : Int → Bool} (h : FMap W g n f) (e : W'.heap[g]? = W.heap[g]?) : FMap W' g n f := ⟨h.choose, own_step h.choose_spec.1 e, h.choose_spec.2⟩
theorem IMap.step {W W' : World} {g n : Nat} {f : Int → Int} (h : IMap W g n f) (e : W'.heap[g]? = W.heap[g]?) : IMap W' g n f := ⟨h.choose, own_step h.choose_spec.1 e, h.choose_spec.2⟩
theorem FMap.lt {W : World} {g n : Nat} {f : Int → Bool} (h : FMap W g n f) : g < W.heap.size := h.choose_spec.1.lt
theorem IMap.lt {W : World} {g n : Nat} {f : Int → Int} (h : IMap W g n f) : g < W.heap.size := h.choose_spec.1.lt
theorem own_made {W W' : World} {k : TypeId} {R : Value → Option (DataW Unit × List MemPlace)} {g : Nat} (h : W'.heap[g]? = some (.map #[] 0)) : W'.ownsMap Try.prog k R g 0 (.map []) := by
  have h1 := World.ownsMap_made W Try.prog k R
  obtain ⟨es, clock, hb, r⟩ := h1
  rw [(MapKept.heap_alloc W _).1] at hb
  injection hb with hb
  injection hb with e1 e2
  subst e1
  subst e2
  exact ⟨_, _, h, r⟩
theorem FMap.made {W : World} {g : Nat} (h : W.heap[g]? = some (.map #[] 0)) : FMap W g 0 (fun _ => false) := ⟨_, own_made (W := W) h, fun _ _ => rfl⟩
theorem IMap.made {W : World} {g : Nat} (h : W.heap[g]? = some (.map #[] 0)) : IMap W g 0 (fun _ => 0) := ⟨_, own_made (W := W) h, fun _ _ => rfl⟩
theorem FMap.get {W : World} {g n : Nat} {f : Int → Bool} (h : FMap W g n f) {p : Int} (hp : (Lit.int .i64 p).wf = true) : (Instr.lookup 118 (.map (some g)) (.int .i64 p) false).run Try.prog W = .ok (.bool (f p)) W := by
  obtain ⟨D, h1, h2⟩ := h
  obtain ⟨v, ps, hr, hv⟩ := h1.lookup eu_k3 eu_u118 (eu_z4 W) (plainElem_bool eu_u4 false) (Go.Maps.keyOf_int_mk eu_u3 hp)
  rw [h2 p hp] at hv
  have e : v = .bool (f p) := by
    unfold plainElem at hv
    rw [eu_u4] at hv
    cases v <;> simp at hv
    rw [hv.1]
  rw [hr, e]
theorem IMap.get {W : World} {g n : Nat} {f : Int → Int} (h : IMap W g n f) {p : Int} (hp : (Lit.int .i64 p).wf = true) : (Instr.lookup 119 (.map (some g)) (.int .i64 p) false).run Try.prog W = .ok (.int .i64 (f p)) W := by
  obtain ⟨D, h1, h2⟩ := h
  obtain ⟨c, hr, hv, _⟩ := h1.lookup_int eu_k3 eu_u119 eu_u3 (eu_z3 W) (Go.Maps.keyOf_int_mk eu_u3 hp)
  rw [h2 p hp] at hv
  have e : f p = c := by
    have h3 : (DataW.lit (H := Unit) (.int .i64 (f p))) = .lit (.int .i64 c) := hv
    simpa using h3
  rw [e]
  exact hr
theorem FMap.put {W : World} {g n : Nat} {f : Int → Bool} (h : FMap W g n f) (hn : n < maxLen) {p : Int} (hp : (Lit.int .i64 p).wf = true) : ∃ W', (Instr.mapUpdate 118 (.map (some g)) (.int .i64 p) (.bool true)).run Try.prog W = .ok () W' ∧ FMap W' g (n + 1) (fun q => if q = p then true else f q) ∧ W.grownBy W' (some g) := by
  obtain ⟨D, h1, h2⟩ := h
  obtain ⟨W', hr, h3, h4⟩ := h1.update eu_k3 eu_u118 hn (Go.Maps.keyOf_int_mk eu_u3 hp) (plainElem_bool eu_u4 true)
  refine ⟨W', hr, ⟨_, h3, fun q hq => ?_⟩, h4⟩
  show _ = DataW.lit (Lit.bool (if q = p then true else f q))
  by_cases e : q = p
  · subst e
    rw [if_pos rfl]
    exact Go.Maps.atKey_put_same h1.isMap (eu_k3.key (Go.Maps.keyOf_int_mk eu_u3 hp)) _ _
  · rw [if_neg e, Go.Maps.atKey_put_other (by intro e2; injection e2 with _ e2; exact e e2)]
    exact h2 q hq
theorem IMap.put {W : World} {g n : Nat} {f : Int → Int} (h : IMap W g n f) (hn : n < maxLen) {p x : Int} (hp : (Lit.int .i64 p).wf = true) (hx : (Lit.int .i64 x).wf = true) : ∃ W', (Instr.mapUpdate 119 (.map (some g)) (.int .i64 p) (.int .i64 x)).run Try.prog W = .ok () W' ∧ IMap W' g (n + 1) (fun q => if q = p then x else f q) ∧ W.grownBy W' (some g) := by
  obtain ⟨D, h1, h2⟩ := h
  obtain ⟨W', hr, h3, h4⟩ := h1.update eu_k3 eu_u119 hn (Go.Maps.keyOf_int_mk eu_u3 hp) (plainElem_int eu_u3 hx)
  refine ⟨W', hr, ⟨_, h3, fun q hq => ?_⟩, h4⟩
  show _ = DataW.lit (Lit.int .i64 (if q = p then x else f q))
  by_cases e : q = p
  · subst e
    rw [if_pos rfl]
    exact Go.Maps.atKey_put_same h1.isMap (eu_k3.key (Go.Maps.keyOf_int_mk eu_u3 hp)) _ _
  · rw [if_neg e, Go.Maps.atKey_put_other (by intro e2; injection e2 with _ e2; exact e e2)]
    exact h2 q hq
/-- 'm[k] = v' at the operation, by its run. -/
theorem mapUpdate_event {ops : Array Oper} {rest : List Oper} {o : Oper} {a : Act} {Q : Exit → Act → World → Prop} {w w' : World} (hg : o.guard = none) (m x v : Operand) (t : TypeId) (hop : o.op = Op.mapUpdate t m x v)
    (g : Nat) (key val : Value) (hm : a.eval m = .map (some g)) (hx : a.eval x = key) (hv : a.eval v = val) (hrun : (Instr.mapUpdate t (.map (some g)) key val).run Try.prog w = .ok () w')
    (hK : wpList Try.prog ops Q rest (a.put o.dst undef) w') : wpList Try.prog ops Q (o :: rest) a w := by
  refine wpList_plain hg fun K' hK' => ?_
  unfold Oper.wp
  simp [execOp, hop, hm, hx, hv, hrun, Result.andThen]
  exact hK' _ _ hK
/-- 'make(map[K]V)' at the operation. -/
theorem map_event {ops : Array Oper} {rest : List Oper} {o : Oper} {a : Act} {Q : Exit → Act → World → Prop} {W : World} (hgd : o.guard = none)
    (hrun : (execOp a.eval o).run Try.prog W = .ok (.value (.map (some W.heap.size))) (W.alloc (.map #[] 0)))
    (h : ∀ g, g = W.heap.size → ∀ w1, w1.heap[g]? = some (.map #[] 0) → Below W.heap.size W w1 → g < w1.heap.size → wpList Try.prog ops Q rest (a.put o.dst (.map (some g))) w1) : wpList Try.prog ops Q (o :: rest) a W :=
  Kd.event_run hgd hrun (h _ rfl _ (MapKept.heap_alloc W _).1 (below_alloc (Below.refl _ _) _) (Array.getElem?_eq_some_iff.1 (MapKept.heap_alloc W _).1).1)
/-! ### what a walk holds of its maps and rows -/
def TMF (g n : Nat) (f : Int → Bool) : (Nat → Prop) → World → Prop := fun RB W => RB g ∧ FMap W g n f
def TMI (g n : Nat) (f : Int → Int) : (Nat → Prop) → World → Prop := fun RB W => RB g ∧ IMap W g n f
theorem tTMF {M : Nat → Prop} {g n : Nat} {f : Int → Bool} : Ts M (TMF g n f) := fun _ _ _ ht _ hb => ⟨ht.1, ht.2.step (hb g ht.2.lt (.inr ht.1))⟩
theorem tTMI {M : Nat → Prop} {g n : Nat} {f : Int → Int} : Ts M (TMI g n f) := fun _ _ _ ht _ hb => ⟨ht.1, ht.2.step (hb g ht.2.lt (.inr ht.1))⟩
/-- The forms from number i on: their rows lie in M'. -/
def TV (n0 : Nat) (M' : Nat → Prop) (cs : Array Value) (i : Nat) (xs : List S41) : (Nat → Prop) → World → Prop := fun _ W =>
  ∀ j, i ≤ j → ∀ h : j < xs.length, ∃ s : Value, cs[j * 2]? = some (.int .i64 (xs[j]).f0) ∧ cs[j * 2 + 1]? = some s ∧ Kd.R k44 44 W n0 M' s (xs[j]).f1
theorem tTV {M M' : Nat → Prop} {n0 : Nat} {cs : Array Value} {i : Nat} {xs : List S41} (h : ∀ b, M' b → M b) : Ts M (TV n0 M' cs i xs) := fun _ W W' ht _ hb j hj hl => by
  obtain ⟨s, h1, h2, h3⟩ := ht j hj hl
  exact ⟨s, h1, h2, Kd.R_step h3 (fun k hk hlt => hb k hlt (.inl (h k hk)))⟩
theorem TV.mono {n0 : Nat} {M' M'' : Nat → Prop} {cs : Array Value} {i i' : Nat} {xs : List S41} {RB RB' : Nat → Prop} {W : World} (h : TV n0 M' cs i xs RB W) (hi : i ≤ i') (hm : ∀ b, M' b → M'' b) : TV n0 M'' cs i' xs RB' W := fun j hj hl => by
  obtain ⟨s, h1, h2, h3⟩ := h j (Nat.le_trans hi hj) hl
  exact ⟨s, h1, h2, Kd.R_mono h3 hm⟩
/-- The forms that have been told. -/
def TF (n0 : Nat) (M Z : Nat → Prop) (fl : List (Int × Value)) (fS : List S41) : (Nat → Prop) → World → Prop := fun RB W =>
  fl.length = fS.length ∧ ∀ (i : Nat) (h : i < fS.length), ∃ v, fl[i]? = some ((fS[i]).f0, v) ∧ Kd.R k44 44 W n0 (fun b => (M b ∨ RB b) ∧ Z b) v (fS[i]).f1
theorem tTF {M Z : Nat → Prop} {n0 : Nat} {fl : List (Int × Value)} {fS : List S41} : Ts M (TF n0 M Z fl fS) := fun _ W W' ht _ hb => ⟨ht.1, fun i hi => by
  obtain ⟨v, h1, h2⟩ := ht.2 i hi
  exact ⟨v, h1, Kd.R_step h2 (fun k hk hlt => hb k hlt hk.1)⟩⟩
theorem TF.mono {n0 : Nat} {M Z Z' RB RB' : Nat → Prop} {fl : List (Int × Value)} {fS : List S41} {W : World} (h : TF n0 M Z fl fS RB W) (hr : ∀ b, RB b → RB' b) (hz : ∀ b, b < W.heap.size → (M b ∨ RB b) → Z b → Z' b) : TF n0 M Z' fl fS RB' W := ⟨h.1, fun i hi => by
  obtain ⟨v, h1, h2⟩ := h.2 i hi
  exact ⟨v, h1, Kd.R_mono (Kd.R_bound h2) (fun k hk => ⟨hk.1.1.imp (fun h => h) (hr k), hz k hk.2.2.1 hk.1.1 hk.1.2⟩)⟩⟩
theorem TF.snoc {n0 : Nat} {M Z RB : Nat → Prop} {fl : List (Int × Value)} {fS : List S41} {W : World} (h : TF n0 M Z fl fS RB W) (K : Int) (v : Value) (l : List S44) (hv : Kd.R k44 44 W n0 (fun b => (M b ∨ RB b) ∧ Z b) v l) : TF n0 M Z (fl ++ [(K, v)]) (fS ++ [⟨K, l⟩]) RB W := by
  refine ⟨by simp [h.1], fun i hi => ?_⟩
  by_cases hlt : i < fS.length
  · obtain ⟨u, h1, h2⟩ := h.2 i hlt
    refine ⟨u, ?_, ?_⟩
    · rw [List.getElem?_append_left (by rw [h.1]; exact hlt), List.getElem_append_left hlt]; exact h1
    · rw [List.getElem_append_left hlt]; exact h2
  · have e : i = fS.length := by simp at hi; omega
    subst e
    refine ⟨v, ?_, ?_⟩
    · have h5 : (fS ++ [(⟨K, l⟩ : S41)])[fS.length] = ⟨K, l⟩ := by simp
      rw [h5, show (fl ++ [(K, v)])[fS.length]? = (fl ++ [(K, v)])[fl.length]? by rw [h.1], List.getElem?_concat_length]
    · simpa using hv
/-- One row, of what the walk may turn or has made. -/
def TRM {α : Type} (M : Nat → Prop) (d : Kd α) (e base : Nat) (v : Value) (xs : List α) : (Nat → Prop) → World → Prop := fun RB W => Kd.R d e W base (fun b => M b ∨ RB b) v xs
theorem tTRM {α : Type} {M : Nat → Prop} {d : Kd α} {e base : Nat} {v : Value} {xs : List α} : Ts M (TRM M d e base v xs) := fun _ _ _ ht _ hb => Kd.R_step ht (fun k hk hlt => hb k hlt hk)
section
variable {w W W' : World} {S M RB : Nat → Prop} {T P : (Nat → Prop) → World → Prop} {L : List (Nat × Array Value × Nat)}
/-- What the walk may turn, and what it has made, has been turned; more has been made. -/
theorem Cx.write (h : Cx w S M RB T P W L) {S' : Nat → Prop} {T' : (Nat → Prop) → World → Prop} (hF : Fs S' W W') (h1 : ∀ b, S' b → M b ∨ RB b) (h2 : ∀ b, S' b → b < w.heap.size → S b) (ht : ∀ RB' : Nat → Prop, (∀ b, RB b → RB' b) → (∀ b, W.heap.size ≤ b → b < W'.heap.size → RB' b) → T' RB' W') (hts : Ts M T') : ∃ RB', Cx w S M RB' T' P W' L := by
  have hw : w.heap.size ≤ W.heap.size := h.fs.size
  refine ⟨fun b => RB b ∨ (W.heap.size ≤ b ∧ b < W'.heap.size), fun x hx => ⟨(hF.block _ (blk_lt (h.lk x hx).1) (fun hs => (h1 _ hs).elim (h.lk x hx).2.2.1 (h.lk x hx).2.2.2)).trans (h.lk x hx).1, (h.lk x hx).2.1, (h.lk x hx).2.2.1, fun hn => hn.elim (h.lk x hx).2.2.2 (fun hn => by have := blk_lt (h.lk x hx).1; omega)⟩, h.ld, fun b hb => ?_, fun b hb => hb.elim (h.rb b) (fun hb => by omega), fun b hm hn => hn.elim (h.mr b hm) (fun hn => by have := h.mb b (.inl hm); omega), ht _ (fun _ h => .inl h) (fun _ h1 h2 => .inr ⟨h1, h2⟩), hts, ?_, h.gd, h.fs.trans hF (fun _ h _ => h) h2⟩
  · rcases hb with hb | hb | hb
    · exact Nat.lt_of_lt_of_le (h.mb b (.inl hb)) hF.size
    · exact Nat.lt_of_lt_of_le (h.mb b (.inr hb)) hF.size
    · exact hb.2
  · have h3 := h.gd.mono (N' := Nx M (fun b => RB b ∨ (W.heap.size ≤ b ∧ b < W'.heap.size)) L) h.p (fun b hb hn => ?_)
    · exact h.gd.step h3 (hF.mono (fun b hb _ => (h1 b hb).elim .inl (fun h => .inr (.inl (.inl h)))))
    · rcases hn with hn | (hn | hn) | hn
      · exact .inl hn
      · exact .inr (.inl hn)
      · omega
      · exact .inr (.inr hn)
end
/-! ### the solutions by the parameters that are not fixed -/
def euclid_fixed (ps : List S96) (q : Int) : Bool := ps.any (fun p => p.f0 == q)
/-- The names of the parameters below m that are not fixed, and how many these are. -/
def euclid_nm (ps : List S96) : Nat → (Int → Int) × Int
  | 0 => (fun _ => 0, 0)
  | m + 1 => if euclid_fixed ps m then euclid_nm ps m else (fun q => if q = m then (euclid_nm ps m).2 else (euclid_nm ps m).1 q, (euclid_nm ps m).2 + 1)
theorem euclid_nm_le (ps : List S96) : ∀ m : Nat, 0 ≤ (euclid_nm ps m).2 ∧ (euclid_nm ps m).2 ≤ m
  | 0 => ⟨Int.le_refl _, Int.le_refl _⟩
  | m + 1 => by
    have h := euclid_nm_le ps m
    rw [euclid_nm]
    split
    · exact ⟨h.1, by omega⟩
    · exact ⟨by show 0 ≤ (euclid_nm ps m).2 + 1; omega, by show (euclid_nm ps m).2 + 1 ≤ ((m + 1 : Nat) : Int); omega⟩
def euclid_nmL (nm : Int → Int) (l : List S44) : List S44 := l.map (fun m => ⟨nm m.f0, m.f1⟩)
def euclid_para.l0 (k : Nat) (ps : List S96) (nm : Int → Int) : List S41 → Int → List S41 → Option (Bool × List S41 × Int)
  | [], err, out => some (true, out, err)
  | x :: xs, err, out => (euclid_clear.f k ps err x ⟨[], 0, false⟩).bind fun r => if r.2.2 = 0 then (if r.1.f1.length ≤ 64 ∧ (∀ m ∈ r.1.f1, 0 ≤ m.f0 ∧ m.f0 < 64) then euclid_para.l0 k ps nm xs r.2.2 (out ++ [⟨r.1.f0, euclid_nmL nm r.1.f1⟩]) else none) else some (false, [], r.2.2)
/-- The solutions: the forms, how many parameters, whether, the error. -/
def euclid_para.f (k : Nat) (xs : List S41) (ps : List S96) (err : Int) (n : Nat) : Option (List S41 × Int × Bool × List Int × Int × Int) :=
  if n ≤ 64 ∧ xs.length ≤ 64 ∧ ps.length ≤ 64 ∧ (∀ p ∈ ps, 0 ≤ p.f0 ∧ p.f0 < 64) then (euclid_para.l0 k ps (euclid_nm ps n).1 xs err []).bind fun r => if r.1 = true then some (r.2.1, (euclid_nm ps n).2, true, [], 0, 0) else some ([], 0, false, [], 0, r.2.2) else none
/-! ### what stays while one block is turned -/
theorem kTB {g : Nat} {o : Obj} {RB RB' S' : Nat → Prop} {W W' : World} (h : TB g o RB W) (hF : Fs S' W W') (hn : ¬ S' g) : TB g o RB' W' := (hF.block g (blk_lt h) hn).trans h
theorem kTMF {g n : Nat} {f : Int → Bool} {RB RB' S' : Nat → Prop} {W W' : World} (h : TMF g n f RB W) (hF : Fs S' W W') (hn : ¬ S' g) (hr : ∀ b, RB b → RB' b) : TMF g n f RB' W' := ⟨hr g h.1, h.2.step (hF.block g h.2.lt hn)⟩
theorem kTMI {g n : Nat} {f : Int → Int} {RB RB' S' : Nat → Prop} {W W' : World} (h : TMI g n f RB W) (hF : Fs S' W W') (hn : ¬ S' g) (hr : ∀ b, RB b → RB' b) : TMI g n f RB' W' := ⟨hr g h.1, h.2.step (hF.block g h.2.lt hn)⟩
theorem R44_typed {W : World} {base : Nat} {ok : Nat → Prop} {v : Value} {xs : List S44} (h : Kd.R k44 44 W base ok v xs) : Kd.R k44 44 W base (fun k => ok k ∧ k < W.heap.size ∧ ∃ cells, W.heap[k]? = some (.cells cells 44 (0, 0))) v xs :=
  Kd.R_mono (Kd.R_bound h) (fun k hk => ⟨hk.1, hk.2.2.1, by
    obtain ⟨q, hq, cells, hc⟩ := hk.2.2.2
    have e : q = 44 := by simpa [k44, Kd.iso, Kd.pair, Kd.int, Kd.scalar] using hq
    exact ⟨cells, e ▸ hc⟩⟩)
theorem R44_ok {W : World} {base : Nat} {ok ok' : Nat → Prop} {v : Value} {xs : List S44} (h : Kd.R k44 44 W base ok v xs) (h' : ∀ k, v.ownBlock = some k → ok' k) : Kd.R k44 44 W base ok' v xs := by
  obtain ⟨_, inner, ho, hr⟩ := h
  refine ⟨h', inner, ho, hr.imp_ (fun p c hp => ?_)⟩
  have e := k44_openM hp
  subst e
  exact k44_mkM _ _ _ _
theorem kTV {n0 i : Nat} {M' : Nat → Prop} {cs : Array Value} {xs : List S41} {RB RB' S' : Nat → Prop} {W W' : World} (h : TV n0 M' cs i xs RB W) (hF : Fs S' W W') (hn : ∀ b, S' b → M' b → ∀ cells, W.heap[b]? ≠ some (.cells cells 44 (0, 0))) : TV n0 M' cs i xs RB' W' := fun j hj hl => by
  obtain ⟨s, h1, h2, h3⟩ := h j hj hl
  exact ⟨s, h1, h2, Kd.R_mono (Kd.R_step (R44_typed h3) (fun k hk hlt => hF.block k hlt (fun hs => hk.2.2.elim (fun cells hc => hn k hs hk.1 cells hc)))) (fun k hk => hk.1)⟩
theorem kTF {n0 : Nat} {M Z : Nat → Prop} {fl : List (Int × Value)} {fS : List S41} {RB RB' S' : Nat → Prop} {W W' : World} (h : TF n0 M Z fl fS RB W) (hF : Fs S' W W') (hn : ∀ b, S' b → Z b → ∀ cells, W.heap[b]? ≠ some (.cells cells 44 (0, 0))) (hr : ∀ b, RB b → RB' b) : TF n0 M Z fl fS RB' W' := ⟨h.1, fun i hi => by
  obtain ⟨v, h1, h2⟩ := h.2 i hi
  exact ⟨v, h1, Kd.R_mono (Kd.R_step (R44_typed h2) (fun k hk hlt => hF.block k hlt (fun hs => hk.2.2.elim (fun cells hc => hn k hs hk.1.2 cells hc)))) (fun k hk => ⟨hk.1.1.imp (fun h => h) (hr k), hk.1.2⟩)⟩⟩
theorem kTR {α : Type} {d : Kd α} {e base : Nat} {v : Value} {xs : List α} {RB RB' S' : Nat → Prop} {W W' : World} (h : TR d e base v xs RB W) (hF : Fs S' W W') (hn : ∀ b, S' b → ∀ q cells, q ∈ e :: d.E → W.heap[b]? ≠ some (.cells cells q (0, 0))) (hr : ∀ b, RB b → RB' b) : TR d e base v xs RB' W' :=
  Kd.R_mono (Kd.R_step (Kd.R_bound h) (fun k hk hlt => hF.block k hlt (fun hs => hk.2.2.2.elim (fun q hq => hq.2.elim (fun cells hc => hn k hs q cells hq.1 hc))))) (fun k hk => hr k hk.1)
theorem mTR {α : Type} {d : Kd α} {e base : Nat} {v : Value} {xs : List α} {RB RB' : Nat → Prop} {W : World} (h : TR d e base v xs RB W) (hr : ∀ b, RB b → RB' b) : TR d e base v xs RB' W := Kd.R_mono h hr
theorem map_ne_cells {g g' : Nat} {W : World} {cells : Array Value} {t : Nat} (h : W.heap[g']? = some (.cells cells t (0, 0))) : (∀ {n : Nat} {f : Int → Bool}, FMap W g n f → g ≠ g') ∧ (∀ {n : Nat} {f : Int → Int}, IMap W g n f → g ≠ g') := by
  constructor
  · rintro n f ⟨D, ⟨es, clock, hb, _⟩, _⟩ rfl
    rw [h] at hb; cases hb
  · rintro n f ⟨D, ⟨es, clock, hb, _⟩, _⟩ rfl
    rw [h] at hb; cases hb
theorem FMap.cells {g n : Nat} {f : Int → Bool} {W : World} (h : FMap W g n f) (cells : Array Value) (t : Nat) : W.heap[g]? ≠ some (.cells cells t (0, 0)) := by
  intro e; exact (map_ne_cells (g := g) e).1 h rfl
theorem IMap.cells {g n : Nat} {f : Int → Int} {W : World} (h : IMap W g n f) (cells : Array Value) (t : Nat) : W.heap[g]? ≠ some (.cells cells t (0, 0)) := by
  intro e; exact (map_ne_cells (g := g) e).2 h rfl
theorem typed_ne {g : Nat} {W : World} {cs cells : Array Value} {t t' : Nat} (h : W.heap[g]? = some (.cells cs t (0, 0))) (ht : t ≠ t') : W.heap[g]? ≠ some (.cells cells t' (0, 0)) := by
  rw [h]; intro e; injection e with e; injection e with _ e; exact ht e
theorem euclid_fixed_snoc (zs : List S96) (p : S96) : (fun q => if q = p.f0 then true else euclid_fixed zs q) = euclid_fixed (zs ++ [p]) := by
  funext q
  unfold euclid_fixed
  rw [List.any_append]
  by_cases e : q = p.f0
  · simp [e]
  · have e2 : (p.f0 == q) = false := beq_eq_false_iff_ne.mpr (fun h => e h.symm)
    simp [e, e2]
/-- Block b is none of those in which the forms from number i on lie. -/
def Zq (cs : Array Value) (n i b : Nat) : Prop := ∀ (l : Nat) (t : Value), i ≤ l → l < n → cs[l * 2 + 1]? = some t → t.ownBlock ≠ some b
theorem Zq.succ {cs : Array Value} {n i b : Nat} (h : Zq cs n i b) : Zq cs n (i + 1) b := fun l t hl hn ht => h l t (by omega) hn ht
/-- A form has been taken: what its row is apart from. -/
theorem para_taken {n0 i n c0 : Nat} {M RB RB' : Nat → Prop} {cs : Array Value} {xs : List S41} {fl : List (Int × Value)} {fS : List S41} {W' : World} {s v : Value} {q : List S44}
    (hn : xs.length = n) (hi : i < n) (hM : ∀ b, M b → b < c0) (hRB : ∀ b, RB b → b < c0) (hc : n0 ≤ c0) (hvd : VD cs n) (hs : cs[i * 2 + 1]? = some s)
    (htv : TV n0 M cs i xs RB W') (htf : TF n0 M (Zq cs n i) fl fS RB W')
    (hd : (v = s ∧ q = (xs[i]'(hn ▸ hi)).f1) ∨ Kd.R k44 44 W' c0 (fun b => c0 ≤ b) v q) (hr : ∀ b, RB b → RB' b) (hf : ∀ b, c0 ≤ b → b < W'.heap.size → RB' b) :
    TV n0 (fun b => M b ∧ v.ownBlock ≠ some b) cs (i + 1) xs RB' W' ∧ TF n0 M (fun b => Zq cs n (i + 1) b ∧ v.ownBlock ≠ some b) fl fS RB' W' ∧ TRM M k44 44 n0 v q RB' W' ∧ ∀ b, v.ownBlock = some b → Zq cs n (i + 1) b := by
  have key : ∀ (l : Nat) (t : Value), i ≤ l → l < n → cs[l * 2 + 1]? = some t → ∀ b, t.ownBlock = some b → M b := by
    intro l t hl hln ht b hb
    obtain ⟨s', _, h2, h3⟩ := htv l hl (by omega)
    rw [ht] at h2
    injection h2 with h2
    subst h2
    exact h3.1 b hb
  have hv : (v = s ∧ q = (xs[i]'(hn ▸ hi)).f1) ∨ (∀ b, v.ownBlock = some b → c0 ≤ b) := hd.imp (fun h => h) (fun h => h.1)
  refine ⟨fun j hj hl => ?_, ⟨htf.1, fun j hj => ?_⟩, ?_, ?_⟩
  · obtain ⟨t, h1, h2, h3⟩ := htv j (by omega) hl
    refine ⟨t, h1, h2, R44_ok h3 (fun b hb => ⟨h3.1 b hb, fun e => ?_⟩)⟩
    rcases hv with ⟨rfl, _⟩ | hv
    · exact hvd i j v t hi (by omega) (by omega) hs h2 b e hb
    · have := hv b e
      have := hM b (h3.1 b hb)
      omega
  · obtain ⟨t, h1, h3⟩ := htf.2 j hj
    refine ⟨t, h1, R44_ok h3 (fun b hb => ?_)⟩
    have h4 := h3.1 b hb
    refine ⟨h4.1.imp (fun h => h) (hr b), h4.2.succ, fun e => ?_⟩
    rcases hv with ⟨rfl, _⟩ | hv
    · exact h4.2 i v (Nat.le_refl _) hi hs e
    · have := hv b e
      have : b < c0 := h4.1.elim (hM b) (hRB b)
      omega
  · rcases hd with ⟨rfl, rfl⟩ | hd
    · obtain ⟨t, h1, h2, h3⟩ := htv i (Nat.le_refl _) (by omega)
      rw [hs] at h2
      injection h2 with h2
      subst h2
      exact Kd.R_mono h3 (fun b hb => .inl hb)
    · exact Kd.R_lower (Kd.R_mono (Kd.R_bound hd) (fun b hb => .inr (hf b hb.1 hb.2.2.1))) hc
  · intro b hb l t hl hln ht e
    rcases hv with ⟨rfl, _⟩ | hv
    · exact hvd i l v t hi hln (by omega) hs ht b hb e
    · have := hv b hb
      have := hM b (key l t (by omega) hln ht b e)
      omega
/-- One form of a row is written: its first number. -/
theorem R44_first {W : World} {base g len cap : Nat} {ok : Nat → Prop} {xs : List S44} (h : Kd.R k44 44 W base ok (.slice (some ⟨g, 0, none⟩) len cap) xs) (i : Nat) (hi : i < len) (m : S44) (hm : xs[i]? = some m) (z : Int) :
    (W.cell? ⟨g, i * 2, none⟩ = some (.int .i64 m.f0) ∧ W.frozen? ⟨g, i * 2, none⟩ = false) ∧ Kd.R k44 44 (W.setCell ⟨g, i * 2, none⟩ (.int .i64 z)) base ok (.slice (some ⟨g, 0, none⟩) len cap) (xs.set i ⟨z, m.f1⟩) := by
  obtain ⟨c, hl, hM, hc, hf⟩ := Kd.R_elem h m (i : Int) (by omega) (by omega)
  have hg : xs.getD ((i : Int).toNat) m = m := by
    rw [List.getD_eq_getElem?_getD]
    show (xs[i]?).getD m = m
    rw [hm]; rfl
  rw [hg] at hM
  have e := k44_openM hM
  subst e
  refine ⟨⟨hc 0 _ rfl, hf 0⟩, ?_⟩
  exact (Kd.R_seg (seg := [.int .i64 z]) (j := 0) h (i : Int) (by omega) (by omega) rfl hc (by show (1 : Nat) ≤ 2; omega) (x' := ⟨z, m.f1⟩) (okp := fun _ => False) (k44_mkM W base (fun _ => False) (⟨z, m.f1⟩ : S44)) (fun _ h => h.elim)).1
theorem TV_at {n0 i : Nat} {M' RB : Nat → Prop} {cs : Array Value} {xs : List S41} {W : World} (h : TV n0 M' cs i xs RB W) (hi : i < xs.length) {y : S41} (hy : xs[i] = y) {s : Value} (hs : cs[i * 2 + 1]? = some s) : Kd.R k44 44 W n0 M' s y.f1 := by
  obtain ⟨s', h1, h2, h3⟩ := h i (Nat.le_refl _) hi
  rw [hs] at h2
  injection h2 with h2
  subst h2
  rw [← hy]
  exact h3
/-- A form is told: its row lies with the others. -/
theorem para_told {n0 i n : Nat} {M RB RB' S' : Nat → Prop} {cs : Array Value} {fl : List (Int × Value)} {fS : List S41} {W W' : World} {v : Value} {cur : List S44} (K : Int)
    (htf : TF n0 M (fun b => Zq cs n (i + 1) b ∧ v.ownBlock ≠ some b) fl fS RB W) (htr : TRM M k44 44 n0 v cur RB W) (hz : ∀ b, v.ownBlock = some b → Zq cs n (i + 1) b)
    (hF : Fs S' W W') (hn : ∀ b, S' b → ∀ cells, W.heap[b]? ≠ some (.cells cells 44 (0, 0))) (hr : ∀ b, RB b → RB' b) :
    TF n0 M (Zq cs n (i + 1)) (fl ++ [(K, v)]) (fS ++ [⟨K, cur⟩]) RB' W' := by
  refine TF.snoc ((kTF htf hF (fun b hs _ => hn b hs) hr).mono (fun _ h => h) (fun _ _ _ h => h.1)) K v cur ?_
  have h1 := R44_ok (ok' := fun b => (M b ∨ RB b) ∧ Zq cs n (i + 1) b) htr (fun b hb => ⟨htr.1 b hb, hz b hb⟩)
  exact Kd.R_mono (Kd.R_step (R44_typed h1) (fun k hk hlt => hF.block k hlt (fun hs => hk.2.2.elim (fun cells hc => hn k hs cells hc)))) (fun k hk => ⟨hk.1.1.imp (fun h => h) (hr k), hk.1.2⟩)
/-- No two of the rows are the same. -/
def FD (fl : List (Int × Value)) : Prop := ∀ (i j : Nat) (a b : Int × Value), i ≠ j → fl[i]? = some a → fl[j]? = some b → ∀ g, a.2.ownBlock = some g → b.2.ownBlock ≠ some g
theorem FD_told {n0 : Nat} {M Z RB : Nat → Prop} {fl : List (Int × Value)} {fS : List S41} {W : World} {K : Int} {v : Value} (h : FD fl) (ht : TF n0 M Z fl fS RB W) (hz : ∀ b, Z b → v.ownBlock ≠ some b) : FD (fl ++ [(K, v)]) := by
  have old : ∀ (i : Nat) (a : Int × Value), fl[i]? = some a → ∀ g, a.2.ownBlock = some g → v.ownBlock ≠ some g := by
    intro i a ha g hg
    have hi : i < fS.length := by rw [← ht.1]; exact (List.getElem?_eq_some_iff.1 ha).1
    obtain ⟨u, h1, h2⟩ := ht.2 i hi
    rw [ha] at h1
    injection h1 with h1
    subst h1
    exact hz g (h2.1 g hg).2
  intro i j a b hij ha hb g hga hgb
  rcases Nat.lt_or_ge i fl.length with hi | hi <;> rcases Nat.lt_or_ge j fl.length with hj | hj
  · rw [List.getElem?_append_left hi] at ha
    rw [List.getElem?_append_left hj] at hb
    exact h i j a b hij ha hb g hga hgb
  · rw [List.getElem?_append_left hi] at ha
    have hlj := (List.getElem?_eq_some_iff.1 hb).1
    have e : j = fl.length := by simp at hlj; omega
    subst e
    rw [List.getElem?_concat_length] at hb
    injection hb with hb
    subst hb
    exact old i a ha g hga hgb
  · rw [List.getElem?_append_left hj] at hb
    have hli := (List.getElem?_eq_some_iff.1 ha).1
    have e : i = fl.length := by simp at hli; omega
    subst e
    rw [List.getElem?_concat_length] at ha
    injection ha with ha
    subst ha
    exact old j b hb g hgb hga
  · have hli := (List.getElem?_eq_some_iff.1 ha).1
    have hlj := (List.getElem?_eq_some_iff.1 hb).1
    simp at hli hlj
    omega
open Classical in
theorem S41_of {W : World} {base : Nat} {ok : Nat → Prop} {v : Value} {fl : List (Int × Value)} {fS : List S41} (h : Kd.R kraw 41 W base ok v fl) (hl : fl.length = fS.length) (hd : FD fl) (hf : ∀ (i : Nat) (hi : i < fS.length), ∃ u, fl[i]? = some ((fS[i]).f0, u) ∧ Kd.R k44 44 W base ok u (fS[i]).f1) : Kd.S k41 41 W base ok v fS := by
  obtain ⟨h0, inner, ho, hr⟩ := h
  refine ⟨fun b => if hb : ∃ (i : Nat) (a : Int × Value), fl[i]? = some a ∧ a.2.ownBlock = some b then hb.choose else 0, h0, inner, ?_, ?_, fun j p hp => ?_⟩
  · rw [List.length_zipIdx]; exact hl ▸ ho
  · rw [List.length_zipIdx]; exact hl ▸ hr.1
  · have hj : j < fS.length := by have := (List.getElem?_eq_some_iff.1 hp).1; rw [List.length_zipIdx] at this; exact this
    rw [Kd.zip_at (List.getElem?_eq_getElem hj)] at hp
    injection hp with hp
    subst hp
    obtain ⟨u, h1, h2⟩ := hf j hj
    have h3 : ((inner.drop (j * k41.sz)).take k41.sz) = [.int .i64 (fS[j]).f0, u] := (hr.2 j _ h1).1
    show k41.M W base _ (fS[j]) ((inner.drop (j * k41.sz)).take k41.sz)
    rw [h3]
    refine k41_mkM W base _ _ (R44_ok h2 (fun k hk => ⟨⟨h2.1 k hk, fun e => ?_⟩, ?_⟩))
    · obtain ⟨c1, hc1⟩ := Kd.R_typed h2 k hk
      obtain ⟨c2, hc2⟩ := own_typed ho k e.symm
      exact typed_ne hc1 (by decide) hc2
    · have hb : ∃ (i : Nat) (a : Int × Value), fl[i]? = some a ∧ a.2.ownBlock = some k := ⟨j, _, h1, hk⟩
      show (if hb : ∃ (i : Nat) (a : Int × Value), fl[i]? = some a ∧ a.2.ownBlock = some k then hb.choose else 0) = j
      rw [dif_pos hb]
      obtain ⟨a, h5, h6⟩ := hb.choose_spec
      rcases Decidable.em (hb.choose = j) with e | e
      · exact e
      · exact absurd hk (hd _ j a _ e h5 h1 k h6)
def euclid_para.T20 : Bool × List (List Nat × List Nat) := (true, [([], []), ([], []), ([1], [1]), ([2], [2]), ([3], [3]), ([0, 0], [0]), ([5, 0, 5], []), ([6, 0, 5, 6], []), ([7, 0, 5, 6, 7], []), ([4, 8, 0, 1, 2, 3, 4, 5, 6, 7, 8], [4])])
def euclid_para.B20 : List Nat := [0, 0, 2, 6, 14, 1, 33, 97, 225, 511]
theorem euclid_para.tab20 : rtab .any (opsOf Try.f45 20) = euclid_para.T20 := by kernel_rfl
theorem euclid_para.bits20 : waitsOk euclid_para.T20.2 euclid_para.B20 = true := by kernel_rfl
def euclid_para.T24 : Bool × List (List Nat × List Nat) := (true, [([], []), ([0], [0]), ([], []), ([], []), ([], []), ([4], [4]), ([], []), ([5, 6], [5, 6]), ([7], [7]), ([8], [8]), ([3, 9], [3, 9]), ([1, 2, 0, 1, 2, 3, 4, 5, 6, 7, 8, 9, 10], [1, 2]), ([11, 0, 1, 2, 3, 4, 5, 6, 7, 8, 9, 10], [11]), ([12, 10, 0, 1, 2, 3, 4, 5, 6, 7, 8, 9, 10], [10, 12])])
def euclid_para.B24 : List Nat := [0, 1, 0, 0, 0, 16, 0, 112, 240, 496, 1016, 2047, 4095, 8191]
theorem euclid_para.tab24 : rtab .any (opsOf Try.f45 24) = euclid_para.T24 := by kernel_rfl
theorem euclid_para.bits24 : waitsOk euclid_para.T24.2 euclid_para.B24 = true := by kernel_rfl
/-! ### (*euclid.work).para -/
set_option maxHeartbeats 8000000 in
set_option maxRecDepth 100000 in
theorem euclid_para.calls (k : Nat) (n0 n : Nat) (M : Nat → Prop) (gW gV : Nat) (Av : Option Addr) (cv : Nat) (Ap : Option Addr) (cp : Nat) (ps : List S96) (err : Int) (cs : Array Value) (xs : List S41) (r1 : List S41) (r2 : Int) (r3 : Bool) (r4 : List Int) (r5 r6 : Int) (w : World)
    (hM : ∀ b, M b → n0 ≤ b ∧ b < w.heap.size) (hMW : M gW) (hMV : M gV) (hne : 0 < n → gV ≠ gW) (hAv : 0 < n → Av = some ⟨gV, 0, none⟩) (hn0 : n0 ≤ w.heap.size) (hnn : xs.length = n)
    (hW : w.heap[gW]? = some (.cells #[.slice Av n cv, .slice Ap ps.length cp, .int .i64 err] 86 (0, 0))) (hV : 0 < n → w.heap[gV]? = some (.cells cs 41 (0, 0))) (hve : TV n0 M cs 0 xs (fun _ => False) w) (hvd : VD cs n)
    (hp : Kd.V k96 96 w 0 (fun b => ¬ M b) (.slice Ap ps.length cp) ps)
    (h : euclid_para.f k xs ps err n = some (r1, r2, r3, r4, r5, r6)) :
    Calls Try.prog 45 #[.pointer (some ⟨gW, 0, none⟩), .int .i64 (n : Int)] w fun e w' => ∃ v, e = .returned (.tuple #[.agg #[v, .int .i64 r2], .bool r3, .slice none 0 0, .int .i64 r5, .int .i64 r6]) ∧ r4 = [] ∧ Kd.S k41 41 w' n0 (fun _ => True) v r1 ∧ Fs M w w' := by
  have hu41 := Try.underlying41
  have hu44 := Try.underlying44
  have hu86 := Try.underlying86
  have hu88 := Try.underlying88
  have hu96 := Try.underlying96
  have hu32 := Try.underlying32
  rw [euclid_para.f] at h
  split at h
  case isFalse => cases h
  rename_i hbounds
  obtain ⟨⟨s1, s2, s3⟩, hl0, h⟩ := Option.bind_eq_some_iff.1 h
  have H := Aside0.mk h
  have HL := Aside0.mk hl0
  have HB := Aside0.mk hbounds
  have HM := Aside0.mk (And.intro hM (And.intro hMW (And.intro hMV (And.intro hne (And.intro hn0 (And.intro hnn hvd))))))
  have HA := Aside0.mk hAv
  have CX := Aside0.mk (Cx.start (w := w) (S := M) (M := M) (T := (TA (TWk gW gV n Av cv (.slice Ap ps.length cp) (err) cs) (TV n0 M cs (0) xs)))
    (P := (PV k96 96 (.slice Ap ps.length cp) ps))
    (fun b hb => (hM b hb).2) ⟨⟨hW, hV⟩, hve⟩ (tTA (tTA (tTB HM.out.2.1) (tTI (tTB HM.out.2.2.1))) (tTV (fun _ h => h))) hp gPV)
  clear h hl0 hbounds hM hMW hMV hne hn0 hnn hvd hW hV hve hp hAv
  have hmm := @run_makeMap Try.prog
  go_enter Try.func45, Try.ntmps45
  go_wp2_with (first
    | ((with_reducible refine gate_dst (N := 4) rfl ?_); refine boxA CX 32 #[.slice none 0 0, .int .i64 0] ?_; clear CX; intro g4 w1 CX)
    | ((with_reducible refine gate_dst (N := 20) rfl ?_); refine map_event ?hg ?hr ?_; (case hg => rfl); (case hr => first | (go_simp; done) | (go_simp; rfl)); intro gF hgd w2 hmb hb hlt; obtain ⟨RB, CX2⟩ := CX.out.rows' (T' := (TA (TA (TWk gW gV n Av cv (.slice Ap ps.length cp) (err) cs) (TV n0 M cs (0) xs)) (TMF gF (0) (fun _ => false)))) (Fs.of_below hb) (fun RB' r1 r2 => ⟨⟨⟨blk_below CX.out.t.1.1 hb, fun h0 => blk_below (CX.out.t.1.2 h0) hb⟩, kTV CX.out.t.2 (Fs.of_below (S := fun _ => False) hb) (fun _ h => h.elim)⟩, ⟨r2 gF (Nat.le_of_eq hgd.symm) hlt, FMap.made hmb⟩⟩) (tTA (tTA (tTA (tTB HM.out.2.1) (tTI (tTB HM.out.2.2.1))) (tTV (fun _ h => h))) tTMF); have HGF := Aside0.mk (show w1.heap.size ≤ gF from Nat.le_of_eq hgd.symm); replace CX := Aside0.mk CX2; clear CX2 hmb hb hlt hgd; have hx_p : w2.cell? ⟨gW, 1, none⟩ = some (.slice Ap ps.length cp) := (blk_cell CX.out.t.1.1.1 1).trans rfl))
  clear hx_p
  go_loopg [26] ps.length (fun gk v26 w' => ∃ (x : Int) (zs rest : List S96) (c : Nat) (RB : Nat → Prop), v26 = .int .i64 x ∧ Aside0 (x = (zs.length : Int) ∧ gk = rest.length ∧ zs ++ rest = ps ∧ c ≤ zs.length) ∧ Aside0 (Cx w M M RB (TA (TA (TWk gW gV n Av cv (.slice Ap ps.length cp) (err) cs) (TV n0 M cs (0) xs)) (TMF gF (c) (euclid_fixed zs))) (PV k96 96 (.slice Ap ps.length cp) ps) w' [(g4, #[.slice none 0 0, .int .i64 0], 32)]))
  case atStart => exact ⟨0, [], ps, 0, RB, rfl, ⟨rfl, rfl, rfl, Nat.le_refl _⟩, CX⟩
  case round =>
    clear CX
    obtain ⟨x, zs, rest, c, RB, rfl, HI, CX⟩ := hrel
    have hll : zs.length + rest.length = ps.length := by rw [← List.length_append, HI.out.2.2.1]
    have HLL := Aside0.mk hll
    clear hll
    cases rest with
    | cons p rest =>
      obtain ⟨gki, rfl⟩ : ∃ gki, gk = gki + 1 := ⟨gk - 1, by have := HI.out.2.1; rw [List.length_cons] at this; omega⟩
      have hx0 : 0 ≤ x := by have := HI.out.1; omega
      have hx1 : x < (ps.length : Int) := by have := HI.out.1; have h2 := HLL.out; rw [List.length_cons] at h2; omega
      have c1 : decide (x < (ps.length : Int)) = true := decide_eq_true hx1
      have hpb : 0 ≤ p.f0 ∧ p.f0 < 64 := HB.out.2.2.2 p (by rw [← HI.out.2.2.1]; simp)
      have HPW := Aside0.mk (eu_wf hpb.1 (by omega))
      clear hpb
      obtain ⟨adp, cs96, e2, _, hK, hcell, _⟩ := Kd.F_get (Kd.V_F CX.out.p) z96 x hx0 hx1
      have hgp : ps.getD x.toNat z96 = p := by rw [← HI.out.2.2.1, HI.out.1]; simp
      rw [hgp] at hK
      obtain ⟨A3, c3, rfl, hl3, hF3⟩ := k96_openF hK
      subst e2
      have hn0 : wr.cell? (adp.add (x.toNat * 6)) = some (.int .i64 p.f0) := hcell 0 _ rfl
      have hn1 : wr.cell? ⟨(adp.add (x.toNat * 6)).block, (adp.add (x.toNat * 6)).off + 1, none⟩ = some (.int .i64 p.f1) := by rw [← add_field _ _ 1 (by omega)]; exact hcell 1 _ rfl
      have hn2 : wr.cell? ⟨(adp.add (x.toNat * 6)).block, (adp.add (x.toNat * 6)).off + 2, none⟩ = some (.int .i64 p.f2) := by rw [← add_field _ _ 2 (by omega)]; exact hcell 2 _ rfl
      have hn3 : wr.cell? ⟨(adp.add (x.toNat * 6)).block, (adp.add (x.toNat * 6)).off + 3, none⟩ = some (.slice A3 p.f3.f0.length c3) := by rw [← add_field _ _ 3 (by omega)]; exact hcell 3 _ rfl
      have hn4 : wr.cell? ⟨(adp.add (x.toNat * 6)).block, (adp.add (x.toNat * 6)).off + 4, none⟩ = some (.int .i64 p.f3.f1) := by rw [← add_field _ _ 4 (by omega)]; exact hcell 4 _ rfl
      have hn5 : wr.cell? ⟨(adp.add (x.toNat * 6)).block, (adp.add (x.toNat * 6)).off + 5, none⟩ = some (.bool p.f3.f2) := by rw [← add_field _ _ 5 (by omega)]; exact hcell 5 _ rfl
      clear hK hcell hl3 hF3 hgp
      have hp1 := eq_true hx0
      have hp2 := eq_true hx1
      clear hx0 hx1
      go_wp2_with (first
        | ((with_reducible refine gate_dst (N := 11) rfl ?_); refine boxB CX 96 #[.int .i64 0, .int .i64 0, .int .i64 0, .slice none 0 0, .int .i64 0, .bool false] ?_; clear CX; intro g11 w3 CX hb_; replace hn0 := zcm hb_ hn0; replace hn1 := zcm hb_ hn1; replace hn2 := zcm hb_ hn2; replace hn3 := zcm hb_ hn3; replace hn4 := zcm hb_ hn4; replace hn5 := zcm hb_ hn5; clear hb_)
        | ((with_reducible refine gate_store (t := 96) (p := 11) rfl ?_); refine storeW CX (Cx.wh0n6) (st96 (CX.out.blk 0 rfl)) ?_; clear CX; intro w4 CX; clear hn0 hn1 hn2 hn3 hn4 hn5; have hc_g11_0 := ze0 (CX.out.blk 0 rfl))
        | (at_mapUpdate; obtain ⟨w5, hrun, hmp, hgr⟩ := CX.out.t.2.2.put (p := p.f0) (Nat.lt_of_le_of_lt HI.out.2.2.2 (by have h1 := HLL.out; have h2 := HB.out.2.2.1; unfold maxLen; omega)) HPW.out; refine mapUpdate_event rfl _ _ _ 118 rfl gF _ _ rfl rfl rfl hrun ?_; have hFs := (Fs.grown hgr).mono (S' := RB) (fun b e _ => Option.some.inj e ▸ CX.out.t.2.1); rw [euclid_fixed_snoc] at hmp; obtain ⟨RB1, CX2⟩ := CX.out.rows' (T' := (TA (TA (TWk gW gV n Av cv (.slice (some adp) ps.length cp) (err) cs) (TV n0 M cs (0) xs)) (TMF gF (c + 1) (euclid_fixed (zs ++ [p]))))) hFs (fun RB' r1 r2 => ⟨⟨⟨CX.out.keepM hFs HM.out.2.1 CX.out.t.1.1.1, fun h0 => CX.out.keepM hFs HM.out.2.2.1 (CX.out.t.1.1.2 h0)⟩, kTV CX.out.t.1.2 hFs (fun b hs hm => absurd hs (CX.out.mr b hm))⟩, ⟨r1 _ CX.out.t.2.1, hmp⟩⟩) (tTA (tTA (tTA (tTB HM.out.2.1) (tTI (tTB HM.out.2.2.1))) (tTV (fun _ h => h))) tTMF); replace CX := Aside0.mk CX2; clear CX2 hrun hmp hgr hFs))
      go_roundg gki
      case measure => omega
      case rel =>
        refine ⟨_, zs ++ [p], rest, c + 1, RB1, rfl, ⟨?_, ?_, ?_, ?_⟩, ⟨CX.out.drop 1⟩⟩
        · have h1 := HI.out.1; have h2 := HLL.out; have h3 := HB.out.2.2.1; rw [List.length_cons] at h2; rw [List.length_append, List.length_singleton]; unfold wrap64; omega
        · have h1 := HI.out.2.1; rw [List.length_cons] at h1; omega
        · rw [List.append_assoc]; exact HI.out.2.2.1
        · rw [List.length_append, List.length_singleton]; have := HI.out.2.2.2; omega
    | nil =>
      have c1 : decide (x < (ps.length : Int)) = false := decide_eq_false (by have := HI.out.1; have h2 := HLL.out; rw [List.length_nil] at h2; omega)
      obtain rfl : ps = zs := by have := HI.out.2.2.1; rw [List.append_nil] at this; exact this.symm
      clear HI HLL
      go_wp2_with (first
        | ((with_reducible refine gate_dst (N := 35) rfl ?_); refine map_event ?hg ?hr ?_; (case hg => rfl); (case hr => first | (go_simp; done) | (go_simp; rfl)); intro gN hgd w3 hmb hb hlt; have HFN := Aside0.mk (show gF ≠ gN from fun e => by have := CX.out.t.2.2.lt; omega); obtain ⟨RB, CX2⟩ := CX.out.rows' (T' := (TA (TA (TA (TWk gW gV n Av cv (.slice Ap ps.length cp) (err) cs) (TV n0 M cs (0) xs)) (TMF gF (c) (euclid_fixed ps))) (TMI gN (0) (fun _ => 0)))) (Fs.of_below hb) (fun RB' r1 r2 => ⟨⟨⟨⟨blk_below CX.out.t.1.1.1 hb, fun h0 => blk_below (CX.out.t.1.1.2 h0) hb⟩, kTV CX.out.t.1.2 (Fs.of_below (S := fun _ => False) hb) (fun _ h => h.elim)⟩, kTMF CX.out.t.2 (Fs.of_below (S := fun _ => False) hb) (fun h => h) r1⟩, ⟨r2 gN (Nat.le_of_eq hgd.symm) hlt, IMap.made hmb⟩⟩) (tTA (tTA (tTA (tTA (tTB HM.out.2.1) (tTI (tTB HM.out.2.2.1))) (tTV (fun _ h => h))) tTMF) tTMI); have HGN := Aside0.mk (show wr.heap.size ≤ gN from Nat.le_of_eq hgd.symm); replace CX := Aside0.mk CX2; clear CX2 hmb hb hlt hgd)
        | ((with_reducible refine gate_dst (N := 12) rfl ?_); refine boxA CX 32 #[.slice none 0 0, .int .i64 0] ?_; clear CX; intro g12 w4 CX)
        | ((with_reducible refine gate_store (t := 32) (p := 12) rfl ?_); refine storeW CX (Cx.wh0n2) (st32 (CX.out.blk 0 rfl)) ?_; clear CX; intro w5 CX))
      clear HGN
      go_loopg [37] n (fun gk v37 w' => ∃ (x : Int) (m c2 : Nat) (RB : Nat → Prop), v37 = .int .i64 x ∧ Aside0 (x = (m : Int) ∧ m + gk = n ∧ c2 ≤ m) ∧ Aside0 (Cx w M M RB (TA (TA (TA (TWk gW gV n Av cv (.slice Ap ps.length cp) (err) cs) (TV n0 M cs (0) xs)) (TMF gF (c) (euclid_fixed ps))) (TMI gN (c2) (euclid_nm ps m).1)) (PV k96 96 (.slice Ap ps.length cp) ps) w' [(g12, #[.slice none 0 0, .int .i64 (euclid_nm ps m).2], 32), (g4, #[.slice none 0 0, .int .i64 0], 32)]))
      case atStart => exact ⟨0, 0, 0, RB, rfl, ⟨rfl, Nat.zero_add _, Nat.le_refl _⟩, CX⟩
      case round =>
      clear CX
      obtain ⟨x, m, c2, RB, rfl, HI, CX⟩ := hrel
      have hnm := euclid_nm_le ps m
      have HN := Aside0.mk hnm
      clear hnm
      cases gk with
      | succ gki =>
        have hx1 : x < (n : Int) := by have := HI.out.1; have := HI.out.2.1; omega
        have c1 : decide (x < (n : Int)) = true := decide_eq_true hx1
        have hwx : (Lit.int .i64 x).wf = true := eu_wf (by have := HI.out.1; omega) (by have := HB.out.1; omega)
        have hlk := CX.out.t.1.2.2.get hwx
        have HWX := Aside0.mk hwx
        obtain ⟨X, hX⟩ : ∃ X, X = (euclid_nm ps m).2 := ⟨_, rfl⟩
        have HX := Aside0.mk hX
        rw [← hX] at HN CX
        have HWF := Aside0.mk (eu_wf HN.out.1 (by have h1 := HN.out.2; have h2 := HI.out.2.1; have h3 := HB.out.1; omega))
        clear hx1 hwx hX
        by_cases hfx : euclid_fixed ps x = true
        · rw [hfx] at hlk
          have HFX := Aside0.mk hfx
          clear hfx
          go_wp2
          go_roundg gki
          case measure => omega
          case rel =>
            have hnm : euclid_nm ps (m + 1) = euclid_nm ps m := by rw [euclid_nm, if_pos (by have h := HFX.out; rw [HI.out.1] at h; exact h)]
            refine ⟨_, m + 1, c2, RB, rfl, ⟨?_, ?_, ?_⟩, ?_⟩
            · have h1 := HI.out.1; have h2 := HI.out.2.1; have h3 := HB.out.1; unfold wrap64; omega
            · have h2 := HI.out.2.1; omega
            · have h2 := HI.out.2.2; omega
            · rw [hnm, ← HX.out]
              exact CX
        · rw [Bool.not_eq_true] at hfx
          rw [hfx] at hlk
          have HFX := Aside0.mk hfx
          clear hfx
          have hc_g12_1 := ze1 (CX.out.blk 0 rfl)
          go_wp2_with (first
            | (at_mapUpdate; obtain ⟨w6, hrun, hmp, hgr⟩ := CX.out.t.2.2.put (p := x) (x := X) (Nat.lt_of_le_of_lt HI.out.2.2 (by have h1 := HI.out.2.1; have h2 := HB.out.1; unfold maxLen; omega)) HWX.out HWF.out; refine mapUpdate_event rfl _ _ _ 119 rfl gN _ _ rfl rfl rfl hrun ?_; have hFs := (Fs.grown hgr).mono (S' := RB) (fun b e _ => Option.some.inj e ▸ CX.out.t.2.1); obtain ⟨RB1, CX2⟩ := CX.out.rows' (T' := (TA (TA (TA (TWk gW gV n Av cv (.slice Ap ps.length cp) (err) cs) (TV n0 M cs (0) xs)) (TMF gF (c) (euclid_fixed ps))) (TMI gN (c2 + 1) (fun q => if q = x then X else (euclid_nm ps m).1 q)))) hFs (fun RB' r1 r2 => ⟨⟨⟨⟨CX.out.keepM hFs HM.out.2.1 CX.out.t.1.1.1.1, fun h0 => CX.out.keepM hFs HM.out.2.2.1 (CX.out.t.1.1.1.2 h0)⟩, kTV CX.out.t.1.1.2 hFs (fun b hs hm => absurd hs (CX.out.mr b hm))⟩, kTMF CX.out.t.1.2 (Fs.grown hgr) (fun e => HFN.out (Option.some.inj e).symm) r1⟩, ⟨r1 _ CX.out.t.2.1, hmp⟩⟩) (tTA (tTA (tTA (tTA (tTB HM.out.2.1) (tTI (tTB HM.out.2.2.1))) (tTV (fun _ h => h))) tTMF) tTMI); replace CX := Aside0.mk CX2; clear CX2 hrun hmp hgr hFs; clear hc_g12_1; have hc_g12_1 := ze1 (CX.out.blk 0 rfl); have hz_g12_1 := blk_frozen (CX.out.blk 0 rfl) 1)
            | ((with_reducible refine gate_store (t := 3) (p := 51) rfl ?_); refine storeW CX (Cx.fl0 1 _ #[.slice none 0 0, .int .i64 (wrap64 (X + 1))]) (st3 (CX.out.blk 0 rfl)) ?_; clear CX; intro w7 CX; clear hc_g12_1 hz_g12_1))
          go_roundg gki
          case measure => omega
          case rel =>
            have hnm : euclid_nm ps (m + 1) = (fun q => if q = x then X else (euclid_nm ps m).1 q, X + 1) := by
              rw [euclid_nm, if_neg (by have h := HFX.out; rw [HI.out.1] at h; rw [h]; decide), HX.out, HI.out.1]
            have hw : wrap64 (X + 1) = X + 1 := by have h1 := HN.out; have h2 := HI.out.2.1; have h3 := HB.out.1; unfold wrap64; omega
            rw [hw] at CX
            refine ⟨_, m + 1, c2 + 1, RB1, rfl, ⟨?_, ?_, ?_⟩, ?_⟩
            · have h1 := HI.out.1; have h2 := HI.out.2.1; have h3 := HB.out.1; unfold wrap64; omega
            · have h2 := HI.out.2.1; omega
            · have h2 := HI.out.2.2; omega
            · rw [hnm]
              exact CX
      | zero =>
        have c1 : decide (x < (n : Int)) = false := decide_eq_false (by have := HI.out.1; have := HI.out.2.1; omega)
        obtain rfl : n = m := by have := HI.out.2.1; omega
        obtain ⟨nm, hnm⟩ : ∃ nm, nm = (euclid_nm ps n).1 := ⟨_, rfl⟩
        obtain ⟨fr, hfr⟩ : ∃ fr, fr = (euclid_nm ps n).2 := ⟨_, rfl⟩
        have HNM := Aside0.mk hnm
        have HFR := Aside0.mk hfr
        rw [← hnm] at CX
        rw [← hnm] at HL
        rw [← hfr] at CX H
        clear HI HN hnm hfr
        obtain ⟨RB2, CX2⟩ : ∃ RB', Cx w M M RB' (TA (TA (TA (TWk gW gV n Av cv (.slice Ap ps.length cp) (err) cs) (TV n0 M cs (0) xs)) (TMI gN (c2) nm)) (TA (TR kraw 41 w.heap.size (.slice none 0 0) []) (TF n0 M (Zq cs n (0)) [] []))) (PV k96 96 (.slice Ap ps.length cp) ps) wr [(g12, #[.slice none 0 0, .int .i64 fr], 32), (g4, #[.slice none 0 0, .int .i64 0], 32)] := ⟨RB, CX.out.withT ⟨⟨CX.out.t.1.1, CX.out.t.2⟩, ⟨Kd.R_nil _ _ _ _ _, ⟨rfl, fun i hi => by simp at hi⟩⟩⟩ (tTA (tTA (tTA (tTA (tTB HM.out.2.1) (tTI (tTB HM.out.2.2.1))) (tTV (fun _ h => h))) tTMI) (tTA tTR tTF))⟩
        replace CX := Aside0.mk CX2
        clear CX2
        have hx_v : wr.cell? ⟨gW, 0, none⟩ = some (.slice Av n cv) := (blk_cell CX.out.t.1.1.1.1 0).trans rfl
        go_wp2
        clear hx_v
        go_loopg [58] n (fun gk v58 w' => ∃ (x : Int) (i : Nat) (rest : List S41) (e_ : Int) (fl : List (Int × Value)) (fS : List S41) (Ao : Option Addr) (co : Nat) (RB : Nat → Prop), v58 = .int .i64 x ∧ Aside0 (FD fl) ∧ Aside0 (x = (i : Int) ∧ gk = rest.length ∧ xs.drop i = rest ∧ i + rest.length = n ∧ fl.length = i) ∧ Aside0 (euclid_para.l0 k ps nm rest e_ fS = some (s1, s2, s3)) ∧ Aside0 (Cx w M M RB (TA (TA (TA (TWk gW gV n Av cv (.slice Ap ps.length cp) (e_) cs) (TV n0 M cs (i) xs)) (TMI gN (c2) nm)) (TA (TR kraw 41 w.heap.size (.slice Ao fl.length co) fl) (TF n0 M (Zq cs n (i)) fl fS))) (PV k96 96 (.slice Ap ps.length cp) ps) w' [(g12, #[.slice Ao fl.length co, .int .i64 fr], 32), (g4, #[.slice none 0 0, .int .i64 0], 32)]))
        case atStart => exact ⟨0, 0, xs, err, [], [], none, 0, RB2, rfl, ⟨fun i j a b _ ha => by simp at ha⟩, ⟨rfl, HM.out.2.2.2.2.2.1.symm, rfl, by rw [Nat.zero_add]; exact HM.out.2.2.2.2.2.1, rfl⟩, HL, CX⟩
        case round =>
        clear CX HL
        obtain ⟨x, i, rest, e_, fl, fS, Ao, co, RB, rfl, HFD, HI, HL, CX⟩ := hrel
        cases rest with
        | nil =>
          have c1 : decide (x < (n : Int)) = false := decide_eq_false (by have := HI.out.1; have h2 := HI.out.2.2.2.1; rw [List.length_nil] at h2; omega)
          have hl := HL.out
          simp only [euclid_para.l0, Option.some.injEq, Prod.mk.injEq] at hl
          obtain ⟨rfl, rfl, rfl⟩ := hl
          have hh := H.out
          rw [if_pos rfl] at hh
          simp only [Option.some.injEq, Prod.mk.injEq] at hh
          obtain ⟨rfl, rfl, rfl, rfl, rfl, rfl⟩ := hh
          clear H HL
          have hc_g12_0 := ze0 (CX.out.blk 0 rfl)
          have hc_g12_1 := ze1 (CX.out.blk 0 rfl)
          go_wp2_with (first
            | ((with_reducible refine gate_store (t := 32) (p := 4) rfl ?_); refine storeW CX (Cx.wh1n2) (st32 (CX.out.blk 1 rfl)) ?_; clear CX; intro w6 CX; clear hc_g12_0 hc_g12_1))
          refine bodyPost_ret (v := .tuple #[.agg #[.slice Ao fl.length co, .int .i64 fr], .bool true, .slice none 0 0, .int .i64 0, .int .i64 0]) ?hres ?hdef ?_
          case hdef => rfl
          case hres => exact results_list (rs := [.cell 4 32, .tmp 5, .tmp 6, .tmp 7, .tmp 8]) (vs := [.agg #[.slice Ao fl.length co, .int .i64 fr], .bool true, .slice none 0 0, .int .i64 0, .int .i64 0]) rfl (show (5 : Nat) ≠ 1 from by decide) (Vals.cell g4 32 #[.slice Ao fl.length co, .int .i64 fr] (0, 0) _ rfl (CX.out.blk 1 rfl) Try.underlying32 rfl (by kernel_rfl) (Vals.tmp (Vals.tmp (Vals.tmp (Vals.tmp .nil)))))
          refine ⟨_, rfl, ?_, CX.out.fs⟩
          exact S41_of (Kd.R_mono (Kd.R_lower CX.out.t.2.1 HM.out.2.2.2.2.1) (fun _ _ => trivial)) CX.out.t.2.2.1 HFD.out (fun i hi => by
            obtain ⟨u, h1, h2⟩ := CX.out.t.2.2.2 i hi
            exact ⟨u, h1, Kd.R_mono h2 (fun _ _ => trivial)⟩)
        | cons y rest =>
          obtain ⟨gko, rfl⟩ : ∃ gko, gk = gko + 1 := ⟨gk - 1, by have := HI.out.2.1; rw [List.length_cons] at this; omega⟩
          have hl := HL.out
          simp only [euclid_para.l0] at hl
          obtain ⟨⟨q, b, er⟩, hcl, hl2⟩ := Option.bind_eq_some_iff.1 hl
          have HCL := Aside0.mk hcl
          have HL2 : Aside0 ((if er = 0 then (if q.f1.length ≤ 64 ∧ (∀ m ∈ q.f1, 0 ≤ m.f0 ∧ m.f0 < 64) then euclid_para.l0 k ps nm rest er (fS ++ [⟨q.f0, euclid_nmL nm q.f1⟩]) else none) else some (false, [], er)) = some (s1, s2, s3)) := ⟨hl2⟩
          have hi : i < n := by have := HI.out.2.2.2.1; rw [List.length_cons] at this; omega
          have hix : i < xs.length := by rw [HM.out.2.2.2.2.2.1]; exact hi
          have hxi : xs[i] = y := by have := HI.out.2.2.1; rw [List.drop_eq_getElem_cons hix] at this; exact (List.cons.inj this).1
          have hxr : xs.drop (i + 1) = rest := by have := HI.out.2.2.1; rw [List.drop_eq_getElem_cons hix] at this; exact (List.cons.inj this).2
          have hpos : 0 < n := by omega
          have hA := HA.out hpos
          subst hA
          obtain ⟨s, hs0, hs1, hs2⟩ := CX.out.t.1.1.2 i (Nat.le_refl _) hix
          rw [hxi] at hs0 hs2
          obtain ⟨As, cs_, es⟩ := Kd.R_slice hs2
          subst es
          have hxt : x.toNat = i := by have := HI.out.1; omega
          have HS0 := Aside0.mk (And.intro hs0 hs1)
          have HS1 := Aside0.mk (show cs[x.toNat * 2]? = some (.int .i64 y.f0) ∧ cs[x.toNat * 2 + 1]? = some (.slice As y.f1.length cs_) by rw [hxt]; exact ⟨hs0, hs1⟩)
          have HI2 := Aside0.mk (And.intro hi (And.intro hix (And.intro hxi (And.intro hxr hpos))))
          have hx0 : 0 ≤ x := by have := HI.out.1; omega
          have hx1 : x < (n : Int) := by have := HI.out.1; omega
          have c1 : decide (x < (n : Int)) = true := decide_eq_true hx1
          have hp1 := eq_true hx0
          have hp2 := eq_true hx1
          clear hl hl2 hcl hi hxi hxr hpos hs0 hs1 hs2 hxt hx0 hx1 HL
          have hv0 : wr.cell? ⟨gV, x.toNat * 2, none⟩ = some (.int .i64 y.f0) := (blk_cell (CX.out.t.1.1.1.2 HI2.out.2.2.2.2) _).trans HS1.out.1
          have hv1 : wr.cell? ⟨gV, x.toNat * 2 + 1, none⟩ = some (.slice As y.f1.length cs_) := (blk_cell (CX.out.t.1.1.1.2 HI2.out.2.2.2.2) _).trans HS1.out.2
          by_cases her : er = 0
          case neg =>
            have hz1 : (er != 0) = true := bne_iff_ne.mpr her
            have hl2 := HL2.out
            rw [if_neg her] at hl2
            simp only [Option.some.injEq, Prod.mk.injEq] at hl2
            obtain ⟨rfl, rfl, rfl⟩ := hl2
            have hh := H.out
            rw [if_neg (by decide)] at hh
            simp only [Option.some.injEq, Prod.mk.injEq] at hh
            obtain ⟨rfl, rfl, rfl, rfl, rfl, rfl⟩ := hh
            clear H HL2 her
            go_wp2_with (first
              | ((with_reducible refine gate_dst (N := 16) rfl ?_); refine boxA CX 41 #[.int .i64 0, .slice none 0 0] ?_; clear CX; intro g16 w6 CX; clear hv0 hv1; have hv0 : w6.cell? ⟨gV, x.toNat * 2, none⟩ = some (.int .i64 y.f0) := (blk_cell (CX.out.t.1.1.1.2 HI2.out.2.2.2.2) _).trans HS1.out.1; have hv1 : w6.cell? ⟨gV, x.toNat * 2 + 1, none⟩ = some (.slice As y.f1.length cs_) := (blk_cell (CX.out.t.1.1.1.2 HI2.out.2.2.2.2) _).trans HS1.out.2)
              | ((with_reducible refine gate_store (t := 41) (p := 16) rfl ?_); refine storeW CX (Cx.wh0n2) (st41 (CX.out.blk 0 rfl)) ?_; clear CX; intro w7 CX; clear hv0 hv1; have hc_g16_0 := ze0 (CX.out.blk 0 rfl); have hc_g16_1 := ze1 (CX.out.blk 0 rfl))
              | ((go_at_call 40); refine (euclid_clear.calls k n0 (fun b => b = gW) gW (.slice (some ⟨gV, 0, none⟩) n cv) Ap cp ps e_ y As cs_ ⟨[], 0, false⟩ none 0 q b er w7 (fun b e => e ▸ blk_lt CX.out.t.1.1.1.1) rfl (Nat.le_trans HM.out.2.2.2.2.1 CX.out.fs.size) CX.out.t.1.1.1.1 (Kd.V_mono CX.out.p (fun b hb e => hb (.inl (e ▸ HM.out.2.1)))) (Kd.V_mono (Kd.R_V (R44_typed (TV_at CX.out.t.1.1.2 HI2.out.2.1 HI2.out.2.2.1 HS0.out.2))) (fun b hb e => hb.2.2.elim (fun cells hc => typed_ne CX.out.t.1.1.1.1 (by decide) (e ▸ hc)))) (Kd.R_nil _ _ _ _ _) HCL.out).mono ?_; rintro e w8 ⟨v, u, rfl, hd, hv_, hu_, hf, hw⟩; have hgW := CX.out.t.1.1.1.1; have h44 : ∀ b, b = gW → ∀ cells, w7.heap[b]? ≠ some (.cells cells 44 (0, 0)) := fun b e cells => e ▸ typed_ne hgW (by decide); have hd2 : (v = .slice As y.f1.length cs_ ∧ q.f1 = (xs[i]'(HM.out.2.2.2.2.2.1 ▸ HI2.out.1)).f1) ∨ Kd.R k44 44 w8 w7.heap.size (fun b => w7.heap.size ≤ b) v q.f1 := hd.imp (fun h => ⟨h.1, by rw [h.2]; exact (congrArg S41.f1 HI2.out.2.2.1).symm⟩) (fun h => h); obtain ⟨Aq, cq, ev⟩ : ∃ A c, v = .slice A q.f1.length c := hd.elim (fun h => ⟨As, cs_, by rw [h.1, h.2]⟩) (fun h => Kd.R_slice h); subst ev; obtain ⟨Au, cu, eu⟩ := Kd.R_slice hu_; subst eu; have hTV : TV n0 M cs i xs RB w8 := kTV CX.out.t.1.1.2 hf (fun b e _ => h44 b e); have hTF : TF n0 M (Zq cs n i) fl fS RB w8 := kTF CX.out.t.2.2 hf (fun b e _ => h44 b e) (fun b h => h); have HZ := Aside0.mk (para_taken HM.out.2.2.2.2.2.1 HI2.out.1 (fun b hb => CX.out.mb b (.inl hb)) (fun b hb => CX.out.mb b (.inr hb)) (Nat.le_trans HM.out.2.2.2.2.1 CX.out.fs.size) HM.out.2.2.2.2.2.2 HS0.out.2 hTV hTF hd2 (RB' := fun _ => True) (fun _ _ => trivial) (fun _ _ _ => trivial)).2.2.2; obtain ⟨RB1, CX2⟩ := CX.out.write (T' := (TA (TA (TA (TA (TWk gW gV n (some ⟨gV, 0, none⟩) cv (.slice Ap ps.length cp) (er) cs) (TV n0 (fun b => M b ∧ (Value.slice Aq q.f1.length cq).ownBlock ≠ some b) cs (i + 1) xs)) (TMI gN (c2) nm)) (TA (TR kraw 41 w.heap.size (.slice Ao fl.length co) fl) (TF n0 M (fun b => Zq cs n (i + 1) b ∧ (Value.slice Aq q.f1.length cq).ownBlock ≠ some b) fl fS))) (TRM M k44 44 n0 (.slice Aq q.f1.length cq) (q.f1)))) hf (fun b e => .inl (e ▸ HM.out.2.1)) (fun b e _ => e ▸ HM.out.2.1) (fun RB' t1 t2 => by (obtain ⟨z1, z2, z3, _⟩ := para_taken HM.out.2.2.2.2.2.1 HI2.out.1 (fun b hb => CX.out.mb b (.inl hb)) (fun b hb => CX.out.mb b (.inr hb)) (Nat.le_trans HM.out.2.2.2.2.1 CX.out.fs.size) HM.out.2.2.2.2.2.2 HS0.out.2 hTV hTF hd2 t1 t2; exact ⟨⟨⟨⟨⟨hw, fun h0 => kTB (CX.out.t.1.1.1.2 h0) hf (fun e => HM.out.2.2.2.1 h0 e)⟩, z1⟩, kTMI CX.out.t.1.2 hf (fun e => by have e : gN = gW := e; have h := hgW; rw [← e] at h; exact CX.out.t.1.2.2.cells _ _ h) t1⟩, ⟨kTR CX.out.t.2.1 hf (fun b e q_ cells hq => by have e : b = gW := e; have hq : q_ = 41 := (by simpa [kraw] using hq); subst e; subst hq; exact typed_ne hgW (by decide)) t1, z2⟩⟩, z3⟩)) (tTA (tTA (tTA (tTA (tTA (tTB HM.out.2.1) (tTI (tTB HM.out.2.2.1))) (tTV (fun _ h => h.1))) tTMI) (tTA tTR tTF)) tTRM); replace CX := Aside0.mk CX2; clear CX2 hgW h44 hd2 hTV hTF hd hv_ hu_ hf hw; clear hc_g16_0 hc_g16_1)
              | ((with_reducible refine gate_dst (N := 17) rfl ?_); refine boxA CX 41 #[.int .i64 0, .slice none 0 0] ?_; clear CX; intro g17 w9 CX)
              | ((with_reducible refine gate_dst (N := 18) rfl ?_); refine boxA CX 88 #[.slice none 0 0, .int .i64 0, .bool false] ?_; clear CX; intro g18 w10 CX)
              | ((with_reducible refine gate_store (t := 41) (p := 17) rfl ?_); refine storeW CX (Cx.wh1n2) (st41 (CX.out.blk 1 rfl)) ?_; clear CX; intro w11 CX)
              | ((with_reducible refine gate_store (t := 88) (p := 18) rfl ?_); refine storeW CX (Cx.wh0n3) (st88 (CX.out.blk 0 rfl)) ?_; clear CX; intro w12 CX; have hc_g17_0 := ze0 (CX.out.blk 1 rfl); have hc_g17_1 := ze1 (CX.out.blk 1 rfl); have hx_e : w12.cell? ⟨gW, 2, none⟩ = some (.int .i64 (er)) := (blk_cell CX.out.t.1.1.1.1.1 2).trans rfl))
            try go_wp2
            replace CX := Aside0.mk CX.out.drew1
            refine start_ (n := 10) (S := fun w' => w'.cell? ⟨gW, 2, none⟩ = some (.int .i64 er)) (ds := []) (lB 10 0) (by kernel_rfl) rfl (by kernel_rfl) (by exact (blk_cell CX.out.t.1.1.1.1.1 2).trans rfl) (fun hHeld => ?_); refine with_tabW euclid_para.tab20 euclid_para.bits20 (fun HT_ HW_ => ?_)
            generalize w12.drew = w13 at CX hHeld ⊢
            refine pureA 0 74 (lB 10 1) ?_
            refine pureA 1 75 (lB 10 3) ?_
            refine pureA 2 76 (lB 10 7) ?_
            refine pureA 3 77 (lB 10 15) ?_
            refine takeA 4 78 (lB 10 31) ?_
            refine one_ (i := 5) (N := none) (lB 10 63) rfl rfl (one_of HT_.out (by kernel_rfl)) (by decide) (fun K hK => ?_)
            refine skipW CX Cx.wh4n2 (st32 (CX.out.blk 4 rfl)) ?_; clear CX; intro w14 CX
            refine hK.out _ _ (by exact (blk_cell CX.out.t.1.1.1.1.1 2).trans rfl) (fun hHeld => ?_)
            clear hK K
            refine pureA 6 5 (lB 10 127) ?_
            refine pureA 7 6 (lB 10 255) ?_
            refine pureA 8 7 (lB 10 511) ?_
            refine pureA 9 8 (lB 10 1023) ?_
            refine done_ (done_of HT_.out (by kernel_rfl)) ?_
            go_wp2
            refine bodyPost_ret (v := .tuple #[.agg #[.slice none 0 0, .int .i64 0], .bool false, .slice none 0 0, .int .i64 0, .int .i64 er]) ?hres ?hdef ?_
            case hdef => rfl
            case hres => exact results_list (rs := [.cell 4 32, .tmp 5, .tmp 6, .tmp 7, .tmp 8]) (vs := [.agg #[.slice none 0 0, .int .i64 0], .bool false, .slice none 0 0, .int .i64 0, .int .i64 er]) rfl (show (5 : Nat) ≠ 1 from by decide) (Vals.cell g4 32 #[.slice none 0 0, .int .i64 0] (0, 0) _ rfl (CX.out.blk 4 rfl) Try.underlying32 rfl (by kernel_rfl) (Vals.tmp (Vals.tmp (Vals.tmp (Vals.tmp .nil)))))
            refine ⟨_, rfl, Kd.S_nil _ _ _ _ _, CX.out.fs⟩
          case pos =>
            have hz1 : (er != 0) = false := by rw [her]; rfl
            have hl2 := HL2.out
            rw [if_pos her] at hl2
            split at hl2
            case isFalse => cases hl2
            rename_i hqb
            have HQB := Aside0.mk hqb
            have HL3 := Aside0.mk hl2
            clear HL2 her hl2 hqb
            go_wp2_with (first
              | ((with_reducible refine gate_dst (N := 16) rfl ?_); refine boxA CX 41 #[.int .i64 0, .slice none 0 0] ?_; clear CX; intro g16 w6 CX; clear hv0 hv1; have hv0 : w6.cell? ⟨gV, x.toNat * 2, none⟩ = some (.int .i64 y.f0) := (blk_cell (CX.out.t.1.1.1.2 HI2.out.2.2.2.2) _).trans HS1.out.1; have hv1 : w6.cell? ⟨gV, x.toNat * 2 + 1, none⟩ = some (.slice As y.f1.length cs_) := (blk_cell (CX.out.t.1.1.1.2 HI2.out.2.2.2.2) _).trans HS1.out.2)
              | ((with_reducible refine gate_store (t := 41) (p := 16) rfl ?_); refine storeW CX (Cx.wh0n2) (st41 (CX.out.blk 0 rfl)) ?_; clear CX; intro w7 CX; clear hv0 hv1; have hc_g16_0 := ze0 (CX.out.blk 0 rfl); have hc_g16_1 := ze1 (CX.out.blk 0 rfl))
              | ((go_at_call 40); refine (euclid_clear.calls k n0 (fun b => b = gW) gW (.slice (some ⟨gV, 0, none⟩) n cv) Ap cp ps e_ y As cs_ ⟨[], 0, false⟩ none 0 q b er w7 (fun b e => e ▸ blk_lt CX.out.t.1.1.1.1) rfl (Nat.le_trans HM.out.2.2.2.2.1 CX.out.fs.size) CX.out.t.1.1.1.1 (Kd.V_mono CX.out.p (fun b hb e => hb (.inl (e ▸ HM.out.2.1)))) (Kd.V_mono (Kd.R_V (R44_typed (TV_at CX.out.t.1.1.2 HI2.out.2.1 HI2.out.2.2.1 HS0.out.2))) (fun b hb e => hb.2.2.elim (fun cells hc => typed_ne CX.out.t.1.1.1.1 (by decide) (e ▸ hc)))) (Kd.R_nil _ _ _ _ _) HCL.out).mono ?_; rintro e w8 ⟨v, u, rfl, hd, hv_, hu_, hf, hw⟩; have hgW := CX.out.t.1.1.1.1; have h44 : ∀ b, b = gW → ∀ cells, w7.heap[b]? ≠ some (.cells cells 44 (0, 0)) := fun b e cells => e ▸ typed_ne hgW (by decide); have hd2 : (v = .slice As y.f1.length cs_ ∧ q.f1 = (xs[i]'(HM.out.2.2.2.2.2.1 ▸ HI2.out.1)).f1) ∨ Kd.R k44 44 w8 w7.heap.size (fun b => w7.heap.size ≤ b) v q.f1 := hd.imp (fun h => ⟨h.1, by rw [h.2]; exact (congrArg S41.f1 HI2.out.2.2.1).symm⟩) (fun h => h); obtain ⟨Aq, cq, ev⟩ : ∃ A c, v = .slice A q.f1.length c := hd.elim (fun h => ⟨As, cs_, by rw [h.1, h.2]⟩) (fun h => Kd.R_slice h); subst ev; obtain ⟨Au, cu, eu⟩ := Kd.R_slice hu_; subst eu; have hTV : TV n0 M cs i xs RB w8 := kTV CX.out.t.1.1.2 hf (fun b e _ => h44 b e); have hTF : TF n0 M (Zq cs n i) fl fS RB w8 := kTF CX.out.t.2.2 hf (fun b e _ => h44 b e) (fun b h => h); have HZ := Aside0.mk (para_taken HM.out.2.2.2.2.2.1 HI2.out.1 (fun b hb => CX.out.mb b (.inl hb)) (fun b hb => CX.out.mb b (.inr hb)) (Nat.le_trans HM.out.2.2.2.2.1 CX.out.fs.size) HM.out.2.2.2.2.2.2 HS0.out.2 hTV hTF hd2 (RB' := fun _ => True) (fun _ _ => trivial) (fun _ _ _ => trivial)).2.2.2; obtain ⟨RB1, CX2⟩ := CX.out.write (T' := (TA (TA (TA (TA (TWk gW gV n (some ⟨gV, 0, none⟩) cv (.slice Ap ps.length cp) (er) cs) (TV n0 (fun b => M b ∧ (Value.slice Aq q.f1.length cq).ownBlock ≠ some b) cs (i + 1) xs)) (TMI gN (c2) nm)) (TA (TR kraw 41 w.heap.size (.slice Ao fl.length co) fl) (TF n0 M (fun b => Zq cs n (i + 1) b ∧ (Value.slice Aq q.f1.length cq).ownBlock ≠ some b) fl fS))) (TRM M k44 44 n0 (.slice Aq q.f1.length cq) (q.f1)))) hf (fun b e => .inl (e ▸ HM.out.2.1)) (fun b e _ => e ▸ HM.out.2.1) (fun RB' t1 t2 => by (obtain ⟨z1, z2, z3, _⟩ := para_taken HM.out.2.2.2.2.2.1 HI2.out.1 (fun b hb => CX.out.mb b (.inl hb)) (fun b hb => CX.out.mb b (.inr hb)) (Nat.le_trans HM.out.2.2.2.2.1 CX.out.fs.size) HM.out.2.2.2.2.2.2 HS0.out.2 hTV hTF hd2 t1 t2; exact ⟨⟨⟨⟨⟨hw, fun h0 => kTB (CX.out.t.1.1.1.2 h0) hf (fun e => HM.out.2.2.2.1 h0 e)⟩, z1⟩, kTMI CX.out.t.1.2 hf (fun e => by have e : gN = gW := e; have h := hgW; rw [← e] at h; exact CX.out.t.1.2.2.cells _ _ h) t1⟩, ⟨kTR CX.out.t.2.1 hf (fun b e q_ cells hq => by have e : b = gW := e; have hq : q_ = 41 := (by simpa [kraw] using hq); subst e; subst hq; exact typed_ne hgW (by decide)) t1, z2⟩⟩, z3⟩)) (tTA (tTA (tTA (tTA (tTA (tTB HM.out.2.1) (tTI (tTB HM.out.2.2.1))) (tTV (fun _ h => h.1))) tTMI) (tTA tTR tTF)) tTRM); replace CX := Aside0.mk CX2; clear CX2 hgW h44 hd2 hTV hTF hd hv_ hu_ hf hw; clear hc_g16_0 hc_g16_1)
              | ((with_reducible refine gate_dst (N := 17) rfl ?_); refine boxA CX 41 #[.int .i64 0, .slice none 0 0] ?_; clear CX; intro g17 w9 CX)
              | ((with_reducible refine gate_dst (N := 18) rfl ?_); refine boxA CX 88 #[.slice none 0 0, .int .i64 0, .bool false] ?_; clear CX; intro g18 w10 CX)
              | ((with_reducible refine gate_store (t := 41) (p := 17) rfl ?_); refine storeW CX (Cx.wh1n2) (st41 (CX.out.blk 1 rfl)) ?_; clear CX; intro w11 CX)
              | ((with_reducible refine gate_store (t := 88) (p := 18) rfl ?_); refine storeW CX (Cx.wh0n3) (st88 (CX.out.blk 0 rfl)) ?_; clear CX; intro w12 CX; have hc_g17_0 := ze0 (CX.out.blk 1 rfl); have hc_g17_1 := ze1 (CX.out.blk 1 rfl); have hx_e : w12.cell? ⟨gW, 2, none⟩ = some (.int .i64 (er)) := (blk_cell CX.out.t.1.1.1.1.1 2).trans rfl))
            clear hc_g17_0 hc_g17_1 hx_e
            go_loopg [82] q.f1.length (fun gk v82 w' => ∃ (z : Int) (zs rest2 : List S44) (RB : Nat → Prop), v82 = .int .i64 z ∧ Aside0 (z = (zs.length : Int) ∧ gk = rest2.length ∧ zs ++ rest2 = q.f1) ∧ Aside0 (Cx w M M RB (TA (TA (TA (TA (TWk gW gV n (some ⟨gV, 0, none⟩) cv (.slice Ap ps.length cp) (er) cs) (TV n0 (fun b => M b ∧ (Value.slice Aq q.f1.length cq).ownBlock ≠ some b) cs (i + 1) xs)) (TMI gN (c2) nm)) (TA (TR kraw 41 w.heap.size (.slice Ao fl.length co) fl) (TF n0 M (fun b => Zq cs n (i + 1) b ∧ (Value.slice Aq q.f1.length cq).ownBlock ≠ some b) fl fS))) (TRM M k44 44 n0 (.slice Aq q.f1.length cq) (euclid_nmL nm zs ++ rest2))) (PV k96 96 (.slice Ap ps.length cp) ps) w' [(g18, #[.slice Au b.f0.length cu, .int .i64 b.f1, .bool b.f2], 88), (g17, #[.int .i64 q.f0, .slice Aq q.f1.length cq], 41), (g16, #[.int .i64 y.f0, .slice As y.f1.length cs_], 41), (g12, #[.slice Ao fl.length co, .int .i64 fr], 32), (g4, #[.slice none 0 0, .int .i64 0], 32)]))
            case atStart => exact ⟨0, [], q.f1, RB1, rfl, ⟨rfl, rfl, rfl⟩, CX⟩
            case round =>
            clear CX
            obtain ⟨z, zs, rest2, RB, rfl, HJ, CX⟩ := hrel
            have hll : zs.length + rest2.length = q.f1.length := by rw [← List.length_append, HJ.out.2.2]
            have HLL := Aside0.mk hll
            clear hll
            cases rest2 with
            | cons m rest2 =>
              obtain ⟨gki, rfl⟩ : ∃ gki, gk = gki + 1 := ⟨gk - 1, by have := HJ.out.2.1; rw [List.length_cons] at this; omega⟩
              have hmb : 0 ≤ m.f0 ∧ m.f0 < 64 := HQB.out.2 m (by rw [← HJ.out.2.2]; simp)
              have HWM := Aside0.mk (eu_wf hmb.1 (by omega))
              clear hmb
              have hz0 : 0 ≤ z := by have := HJ.out.1; omega
              have hz2 : z < (q.f1.length : Int) := by have := HJ.out.1; have h2 := HLL.out; rw [List.length_cons] at h2; omega
              have c2_ : decide (z < (q.f1.length : Int)) = true := decide_eq_true hz2
              have hzt : z.toNat = zs.length := by have := HJ.out.1; omega
              have hzl : z.toNat = (euclid_nmL nm zs).length := by rw [hzt]; exact (List.length_map _).symm
              have HZI := Aside0.mk (show z.toNat < q.f1.length ∧ (euclid_nmL nm zs ++ m :: rest2)[z.toNat]? = some m ∧ (euclid_nmL nm zs ++ m :: rest2).set z.toNat ⟨nm m.f0, m.f1⟩ = euclid_nmL nm (zs ++ [m]) ++ rest2 from ⟨by omega, by rw [hzl]; simp, by rw [hzl, set_mid]; simp [euclid_nmL]⟩)
              have hcl : (euclid_nmL nm zs ++ m :: rest2).length = q.f1.length := by have h2 := HLL.out; simp only [List.length_append, List.length_cons, euclid_nmL, List.length_map] at h2 ⊢; exact h2
              obtain ⟨gu, cap, eu, hgu0, _, _⟩ := Kd.R_form CX.out.t.2 (by rw [hcl]; omega)
              rw [hcl] at eu
              injection eu with eu1 eu2 eu3
              subst eu1
              subst eu3
              have HGU := Aside0.mk hgu0
              have hp3 := eq_true hz0
              have hp4 := eq_true hz2
              clear hz0 hz2 hzt hzl hcl hgu0 eu2
              go_wp2
              replace CX := Aside0.mk CX.out.drew1
              refine start_ (n := 14) (S := fun w' => w'.cell? ⟨g17, 1, none⟩ = some (.slice (some ⟨gu, 0, none⟩) q.f1.length cq) ∧ w'.cell? ⟨gu, z.toNat * 2, none⟩ = some (.int .i64 m.f0) ∧ (Instr.lookup 119 (.map (some gN)) (.int .i64 m.f0) false).run Try.prog w' = .ok (.int .i64 (nm m.f0)) w') (ds := [13]) (lB 14 0) (by kernel_rfl) rfl (by kernel_rfl) ⟨CX.out.cell 1 1 rfl rfl, (R44_first CX.out.t.2 z.toNat HZI.out.1 m HZI.out.2.1 (nm m.f0)).1.1, CX.out.t.1.1.2.2.get HWM.out⟩ (fun hHeld => ?_); refine with_tabW euclid_para.tab24 euclid_para.bits24 (fun HT_ HW_ => ?_)
              generalize wr.drew = w13 at CX hHeld ⊢
              refine pureA 0 85 (lB 14 1) ?_
              refine takeA 1 86 (lB 14 3) ?_
              refine pureA 2 87 (lB 14 7) ?_
              refine pureA 3 88 (lB 14 15) ?_
              refine pureA 4 89 (lB 14 31) ?_
              refine takeA 5 90 (lB 14 63) ?_
              refine pureA 6 91 (lB 14 127) ?_
              refine pureA 7 92 (lB 14 255) ?_
              refine pureA 8 93 (lB 14 511) ?_
              refine takeA 9 94 (lB 14 1023) ?_
              refine takeA 10 95 (lB 14 2047) ?_
              refine pureA 11 96 (lB 14 4095) ?_
              refine pureA 12 97 (lB 14 8191) ?_
              refine last_ (i := 13) (N := none) (lB 14 16383) rfl rfl (one_of HT_.out (by kernel_rfl)) (by decide) (fun K hK => ?_)
              obtain ⟨⟨hk0, hkf⟩, hkR⟩ := R44_first CX.out.t.2 z.toNat HZI.out.1 m HZI.out.2.1 (nm m.f0)
              refine skip_ (w1 := (w13.setCell ⟨gu, z.toNat * 2, none⟩ (.int .i64 (nm m.f0)))) (by rfl) rfl ?hs_ ?_
              case hs_ => first | (go_simp; done) | (go_simp; rfl)
              have hfs := Fs.set w13 gu (z.toNat * 2) (.int .i64 (nm m.f0))
              obtain ⟨cells_, hgu⟩ := Kd.R_typed CX.out.t.2 gu rfl
              rw [HZI.out.2.2] at hkR
              obtain ⟨RB3, CX3⟩ := CX.out.write (T' := (TA (TA (TA (TA (TWk gW gV n (some ⟨gV, 0, none⟩) cv (.slice Ap ps.length cp) (er) cs) (TV n0 (fun b => M b ∧ (Value.slice (some ⟨gu, 0, none⟩) q.f1.length cq).ownBlock ≠ some b) cs (i + 1) xs)) (TMI gN (c2) nm)) (TA (TR kraw 41 w.heap.size (.slice Ao fl.length co) fl) (TF n0 M (fun b => Zq cs n (i + 1) b ∧ (Value.slice (some ⟨gu, 0, none⟩) q.f1.length cq).ownBlock ≠ some b) fl fS))) (TRM M k44 44 n0 (.slice (some ⟨gu, 0, none⟩) q.f1.length cq) (euclid_nmL nm (zs ++ [m]) ++ rest2)))) hfs (fun b e => e ▸ CX.out.t.2.1 gu rfl) (fun b e hlt => (show M b ∨ RB b from e ▸ CX.out.t.2.1 gu rfl).elim (fun h => h) (fun h => absurd (CX.out.rb b h) (by omega))) (fun RB' t1 t2 => ⟨⟨⟨⟨⟨kTB CX.out.t.1.1.1.1.1 hfs (fun e => by have e : gW = gu := e; subst e; exact typed_ne CX.out.t.1.1.1.1.1 (by decide) hgu), fun h0 => kTB (CX.out.t.1.1.1.1.2 h0) hfs (fun e => by have e : gV = gu := e; subst e; exact typed_ne (CX.out.t.1.1.1.1.2 h0) (by decide) hgu)⟩, kTV CX.out.t.1.1.1.2 hfs (fun b e hm => absurd (show (Value.slice (some ⟨gu, 0, none⟩) q.f1.length cq).ownBlock = some b by rw [show b = gu from e]; rfl) hm.2)⟩, kTMI CX.out.t.1.1.2 hfs (fun e => by have e : gN = gu := e; subst e; exact CX.out.t.1.1.2.2.cells _ _ hgu) t1⟩, ⟨kTR CX.out.t.1.2.1 hfs (fun b e q_ cells hq => by have e : b = gu := e; have hq : q_ = 41 := (by simpa [kraw] using hq); subst e; subst hq; exact typed_ne hgu (by decide)) t1, kTF CX.out.t.1.2.2 hfs (fun b e hm => absurd (show (Value.slice (some ⟨gu, 0, none⟩) q.f1.length cq).ownBlock = some b by rw [show b = gu from e]; rfl) hm.2) t1⟩⟩, Kd.R_mono hkR (fun b hb => hb.imp (fun h => h) (t1 b))⟩) (tTA (tTA (tTA (tTA (tTA (tTB HM.out.2.1) (tTI (tTB HM.out.2.2.1))) (tTV (fun _ h => h.1))) tTMI) (tTA tTR tTF)) tTRM)
              replace CX := Aside0.mk CX3
              clear CX3 hk0 hkf hkR hfs hgu
              generalize (w13.setCell ⟨gu, z.toNat * 2, none⟩ (.int .i64 (nm m.f0))) = w14 at CX ⊢
              refine hK.out _ _ ?_
              clear hK K
              refine done_ (done_of HT_.out (by kernel_rfl)) ?_
              go_wp2
              go_roundg gki
              case measure => omega
              case rel =>
                refine ⟨_, zs ++ [m], rest2, RB3, rfl, ⟨?_, ?_, ?_⟩, CX⟩
                · have h1 := HJ.out.1; have h2 := HLL.out; have h3 := HQB.out.1; rw [List.length_cons] at h2; rw [List.length_append, List.length_singleton]; unfold wrap64; omega
                · have h1 := HJ.out.2.1; rw [List.length_cons] at h1; omega
                · rw [List.append_assoc]; exact HJ.out.2.2
            | nil =>
              have c2_ : decide (z < (q.f1.length : Int)) = false := decide_eq_false (by have := HJ.out.1; have h2 := HLL.out; rw [List.length_nil] at h2; omega)
              have hzq : zs = q.f1 := by have := HJ.out.2.2; rw [List.append_nil] at this; exact this
              rw [List.append_nil, hzq] at CX
              have HFD2 := Aside0.mk (FD_told (K := q.f0) HFD.out CX.out.t.1.2.2 (fun b hb => hb.2))
              obtain ⟨Q, hQ⟩ : ∃ Q, Q = euclid_nmL nm q.f1 := ⟨_, rfl⟩
              rw [← hQ] at CX HL3
              have hQl : q.f1.length = Q.length := by rw [hQ]; exact (List.length_map _).symm
              have HQL := Aside0.mk hQl
              clear hzq HJ HLL hQ hQl
              have hc_g12_0 := ze0 (CX.out.blk 3 rfl)
              have hc_g12_1 := ze1 (CX.out.blk 3 rfl)
              have hc_g17_0 := ze0 (CX.out.blk 1 rfl)
              have hc_g17_1 := ze1 (CX.out.blk 1 rfl)
              go_wp2_with (first
                | ((with_reducible refine gate_builtin (b := .append) (xs := #[.tmp 100, .tmp 102]) rfl ?_); at_builtin; refine Kd.R_append kraw (w0 := wr) w.heap.size rfl (.tmp 100) (.tmp 102) 22 41 (.agg #[(.int .i64 0), (.slice none 0 0)]) 32 rfl Try.underlying22 info41 rfl (by decide) (by omega) (.slice Ao fl.length co) fl ((q.f0, Value.slice Aq q.f1.length cq) : Int × Value) [.int .i64 q.f0, .slice Aq q.f1.length cq] (fun k_ => RB k_ ∨ wr.heap.size ≤ k_) (fun _ => False) rfl rfl ?aP (fun _ hk => hk.elim) (fun _ h => .inr h) ?aO (Below.refl _ _) CX.out.fs.size ?aL ?_; (case aP => exact (show Kd.M kraw _ _ _ (q.f0, Value.slice Aq q.f1.length cq) [.int .i64 q.f0, .slice Aq q.f1.length cq] from ⟨rfl, rfl⟩)); (case aO => exact Kd.R_mono CX.out.t.1.2.1 (fun _ h => .inl h)); (case aL => have h1 := HI.out.2.2.2.2; have h2 := HI2.out.1; have h3 := HB.out.1; omega); intro vo w13 ho hb hg hat; obtain ⟨A1, c1_, ev⟩ := Kd.R_slice ho; subst ev; have hgf := Fs.grown hg; have hty := Kd.R_typed CX.out.t.1.2.1; have hFs := hgf.mono (S' := RB) (fun b e _ => CX.out.t.1.2.1.1 b e); obtain ⟨RB4, CX4⟩ := CX.out.rows' (T' := (TA (TA (TA (TWk gW gV n (some ⟨gV, 0, none⟩) cv (.slice Ap ps.length cp) (er) cs) (TV n0 M cs (i + 1) xs)) (TMI gN (c2) nm)) (TA (TR kraw 41 w.heap.size (.slice A1 (fl ++ [(q.f0, Value.slice Aq q.f1.length cq)]).length c1_) (fl ++ [(q.f0, Value.slice Aq q.f1.length cq)])) (TF n0 M (Zq cs n (i + 1)) (fl ++ [(q.f0, Value.slice Aq q.f1.length cq)]) (fS ++ [⟨q.f0, Q⟩]))))) hFs (fun RB' t1 t2 => ⟨⟨⟨⟨CX.out.keepM hFs HM.out.2.1 CX.out.t.1.1.1.1.1, fun h0 => CX.out.keepM hFs HM.out.2.2.1 (CX.out.t.1.1.1.1.2 h0)⟩, (kTV CX.out.t.1.1.1.2 hFs (fun b hs hm => absurd hs (CX.out.mr b hm.1)) (RB' := RB')).mono (Nat.le_refl _) (fun _ h => h.1)⟩, kTMI CX.out.t.1.1.2 hgf (fun e => by (obtain ⟨cells, hc⟩ := hty gN e; exact CX.out.t.1.1.2.2.cells _ _ hc)) t1⟩, ⟨Kd.R_mono (Kd.R_bound ho) (fun k hk => hk.1.elim (t1 k) (fun h => t2 k h hk.2.2.1)), para_told q.f0 CX.out.t.1.2.2 CX.out.t.2 HZ.out hgf (fun b e cells hc => by (obtain ⟨cells2, hc2⟩ := hty b e; exact typed_ne hc2 (by decide) hc)) t1⟩⟩) (tTA (tTA (tTA (tTA (tTB HM.out.2.1) (tTI (tTB HM.out.2.2.1))) (tTV (fun _ h => h))) tTMI) (tTA tTR tTF)); replace CX := Aside0.mk CX4; clear CX4 ho hb hg hat hgf hty hFs; clear hc_g12_0 hc_g12_1 hc_g17_0 hc_g17_1; have hc_g12_0 := ze0 (CX.out.blk 3 rfl); have hc_g12_1 := ze1 (CX.out.blk 3 rfl); have hz_g12_0 := blk_frozen (CX.out.blk 3 rfl) 0; have hz_g12_1 := blk_frozen (CX.out.blk 3 rfl) 1)
                | ((with_reducible refine gate_store (t := 22) (p := 104) rfl ?_); refine storeW CX (Cx.fl3 0 _ #[.slice A1 (fl ++ [(q.f0, Value.slice Aq q.f1.length cq)]).length c1_, .int .i64 fr]) (st22 (CX.out.blk 3 rfl)) ?_; clear CX; intro w14 CX; clear hc_g12_0 hc_g12_1 hz_g12_0 hz_g12_1))
              go_roundg gko
              case measure => omega
              case rel =>
                refine ⟨_, i + 1, rest, er, (fl ++ [(q.f0, Value.slice Aq q.f1.length cq)]), (fS ++ [⟨q.f0, Q⟩]), A1, c1_, RB4, rfl, HFD2, ⟨?_, ?_, ?_, ?_, ?_⟩, HL3, ⟨CX.out.drop 3⟩⟩
                · have h1 := HI.out.1; have h2 := HI2.out.1; have h3 := HB.out.1; unfold wrap64; omega
                · have h1 := HI.out.2.1; rw [List.length_cons] at h1; omega
                · exact HI2.out.2.2.2.1
                · have h1 := HI.out.2.2.2.1; rw [List.length_cons] at h1; omega
                · rw [List.length_append, List.length_singleton, HI.out.2.2.2.2]

end Go.Proofs.Ytjinmlpekecmbaa.PEuclidNone
