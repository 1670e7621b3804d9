/- What a system's methods come to (euclid.run and what it calls), walked by hand: they answer as the plain functions of the same names do, wherever those answer; no condition but what stands in each theorem. Printed in part by programs of this session. -/
import Derived.Test.YtjinmlpekecmbaaPEuclidNonex0
import Derived.Test.YtjinmlpekecmbaaPEuclidNonex1
import Derived.Test.YtjinmlpekecmbaaPEuclidNonex2
import Derived.Test.YtjinmlpekecmbaaPEuclidNonex3
import Derived.Test.YtjinmlpekecmbaaPEuclidNonex4
import Derived.Test.YtjinmlpekecmbaaPEuclidNonex5
import Derived.Test.YtjinmlpekecmbaaPEuclidNonex6
import Derived.Test.YtjinmlpekecmbaaPEuclidNonex7
import Derived.Test.YtjinmlpekecmbaaPEuclidNonex8
import Derived.Deep.RegionHeld3
import Derived.Maps.OwnSet
import Derived.Maps.Views
import Derived.Maps.OwnOps
namespace Go.Proofs.Ytjinmlpekecmbaa.PEuclidNone
open Go.RowKit Go.Proofs.YtjinmlpekecmbaaW.PrintWords Go.Proofs.YtjinmlpekecmbaaW.PrintLast Go.Proofs.YtjinmlpekecmbaaW.PrintMore
open Go.Proofs.YtjinmlpekecmbaaW.PrintWords renaming blk_drewN → zN, blk_drew → zD, blk_alloc → zA, below_alloc → yA, pw_below_drewN → yN, below_drew1 → yD, below_set → yS, gate_callee → zC
open Go.Proofs.YtjinmlpekecmbaaW.PrintWords.Aside0 renaming mk → zK
attribute [local go_sem] max2_int min2_int max_two min_two max_three min_three max_four min_four   -- for this text's walks alone
set_option linter.unusedVariables false
set_option linter.unusedSimpArgs false
/-! ### where a walk stands: what lies in its own blocks, what it may turn, what stays -/
/-- All but the blocks of S is as it was. -/
structure Fs (S : Nat → Prop) (w w' : World) : Prop where
  os : w'.os = w.os
  tape : w'.tape = w.tape
  output : w'.output = w.output
  size : w.heap.size ≤ w'.heap.size
  block : ∀ i, i < w.heap.size → ¬ S i → w'.heap[i]? = w.heap[i]?
theorem Fs.refl (S : Nat → Prop) (w : World) : Fs S w w := ⟨rfl, rfl, rfl, Nat.le_refl _, fun _ _ _ => rfl⟩
theorem Fs.of_below {S : Nat → Prop} {w w' : World} (h : Below w.heap.size w w') : Fs S w w' := ⟨h.os, h.tape, h.output, h.size, fun i hi _ => h.block i hi⟩
theorem Fs.below {S : Nat → Prop} {w w' : World} (h : Fs S w w') (hS : ∀ b, S b → w.heap.size ≤ b) : Below w.heap.size w w' := ⟨h.os, h.tape, h.output, h.size, fun i hi => h.block i hi (fun hs => by have := hS i hs; omega)⟩
theorem Fs.mono {S S' : Nat → Prop} {w w' : World} (h : Fs S w w') (hS : ∀ b, S b → b < w.heap.size → S' b) : Fs S' w w' := ⟨h.os, h.tape, h.output, h.size, fun i hi hs => h.block i hi (fun h => hs (hS i h hi))⟩
theorem Fs.trans {S S' S'' : Nat → Prop} {w w1 w2 : World} (h : Fs S w w1) (k : Fs S' w1 w2) (h1 : ∀ b, S b → b < w.heap.size → S'' b) (h2 : ∀ b, S' b → b < w.heap.size → S'' b) : Fs S'' w w2 :=
  ⟨k.os.trans h.os, k.tape.trans h.tape, k.output.trans h.output, Nat.le_trans h.size k.size, fun i hi hs => (k.block i (Nat.lt_of_lt_of_le hi h.size) (fun h => hs (h2 i h hi))).trans (h.block i hi (fun h => hs (h1 i h hi)))⟩
theorem Fs.set (W : World) (g j : Nat) (v : Value) : Fs (fun b => b = g) W (W.setCell ⟨g, j, none⟩ v) := by
  refine ⟨rfl, rfl, rfl, ?_, fun i _ hs => Below.heap_setCell W ⟨g, j, none⟩ v i hs⟩
  simp [World.setCell]
theorem Fs.grown {W W' : World} {row : Option Nat} (h : W.grownBy W' row) : Fs (fun b => row = some b) W W' := ⟨h.os, h.tape, h.output, h.size, fun i hi hs => h.block i hi (fun e => hs e.symm)⟩
/-- What stays, whatever blocks of N are turned. -/
structure Good (P : (Nat → Prop) → World → Prop) : Prop where
  mono : ∀ {N N' : Nat → Prop} {W : World}, P N W → (∀ b, b < W.heap.size → N' b → N b) → P N' W
  step : ∀ {N : Nat → Prop} {W W' : World}, P N W → Fs N W W' → P N W'
theorem good_true : Good (fun _ _ => True) := ⟨fun _ _ => trivial, fun _ _ => trivial⟩
theorem Good.and {P Q : (Nat → Prop) → World → Prop} (hP : Good P) (hQ : Good Q) : Good (fun N W => P N W ∧ Q N W) :=
  ⟨fun h hN => ⟨hP.mono h.1 hN, hQ.mono h.2 hN⟩, fun h hs => ⟨hP.step h.1 hs, hQ.step h.2 hs⟩⟩
theorem good_V {α : Type} (d : Kd α) (e base : Nat) (v : Value) (xs : List α) : Good (fun N W => Kd.V d e W base (fun b => ¬ N b) v xs) :=
  ⟨fun h hN => Kd.V_mono (Kd.V_bound h) (fun b hb hn => hb.1 (hN b hb.2 hn)), fun h hs => Kd.V_step h (fun k hk hlt => hs.block k hlt hk)⟩
theorem good_R {α : Type} (d : Kd α) (e base : Nat) (v : Value) (xs : List α) : Good (fun N W => Kd.R d e W base (fun b => ¬ N b) v xs) :=
  ⟨fun h hN => Kd.R_mono (Kd.R_bound h) (fun b hb hn => hb.1 (hN b hb.2.2.1 hn)), fun h hs => Kd.R_step h (fun k hk hlt => hs.block k hlt hk)⟩
theorem good_blk (g : Nat) (o : Obj) : Good (fun N W => W.heap[g]? = some o ∧ ¬ N g) :=
  ⟨fun h hN => ⟨h.1, fun hn => h.2 (hN g (blk_lt h.1) hn)⟩, fun h hs => ⟨(hs.block g (blk_lt h.1) h.2).trans h.1, h.2⟩⟩
theorem good_all {ι : Type} {P : ι → (Nat → Prop) → World → Prop} (h : ∀ i, Good (P i)) : Good (fun N W => ∀ i, P i N W) :=
  ⟨fun hp hN i => (h i).mono (hp i) hN, fun hp hs i => (h i).step (hp i) hs⟩
theorem good_imp {p : Prop} {P : (Nat → Prop) → World → Prop} (h : Good P) : Good (fun N W => p → P N W) :=
  ⟨fun hp hN q => h.mono (hp q) hN, fun hp hs q => h.step (hp q) hs⟩
theorem good_ex {ι : Type} {P : ι → (Nat → Prop) → World → Prop} (h : ∀ i, Good (P i)) : Good (fun N W => ∃ i, P i N W) :=
  ⟨fun ⟨i, hp⟩ hN => ⟨i, (h i).mono hp hN⟩, fun ⟨i, hp⟩ hs => ⟨i, (h i).step hp hs⟩⟩
theorem Good.or {P Q : (Nat → Prop) → World → Prop} (hP : Good P) (hQ : Good Q) : Good (fun N W => P N W ∨ Q N W) :=
  ⟨fun h hN => h.imp (fun h => hP.mono h hN) (fun h => hQ.mono h hN), fun h hs => h.imp (fun h => hP.step h hs) (fun h => hQ.step h hs)⟩
theorem good_const (p : Prop) : Good (fun _ _ => p) := ⟨fun h _ => h, fun h _ => h⟩
/-- What hangs on the blocks of M and RB alone. -/
def Ts (M : Nat → Prop) (T : (Nat → Prop) → World → Prop) : Prop := ∀ (RB : Nat → Prop) (W W' : World), T RB W → W.heap.size ≤ W'.heap.size → (∀ b, b < W.heap.size → (M b ∨ RB b) → W'.heap[b]? = W.heap[b]?) → T RB W'
theorem ts_true (M : Nat → Prop) : Ts M (fun _ _ => True) := fun _ _ _ _ _ _ => trivial
theorem ts_and {M : Nat → Prop} {T U : (Nat → Prop) → World → Prop} (h : Ts M T) (k : Ts M U) : Ts M (fun RB W => T RB W ∧ U RB W) := fun RB W W' ht hl hb => ⟨h RB W W' ht.1 hl hb, k RB W W' ht.2 hl hb⟩
theorem ts_blk (M : Nat → Prop) (g : Nat) (o : Obj) (hg : M g) : Ts M (fun _ W => W.heap[g]? = some o) := fun _ W W' ht _ hb => (hb g (blk_lt ht) (.inl hg)).trans ht
theorem ts_imp {M : Nat → Prop} {p : Prop} {T : (Nat → Prop) → World → Prop} (h : Ts M T) : Ts M (fun RB W => p → T RB W) := fun RB W W' ht hl hb q => h RB W W' (ht q) hl hb
theorem ts_R {α : Type} (M : Nat → Prop) (d : Kd α) (e base : Nat) (v : Value) (xs : List α) : Ts M (fun RB W => Kd.R d e W base RB v xs) := fun RB W W' ht _ hb => Kd.R_step ht (fun k hk hlt => hb k hlt (.inr hk))
def Nx (M RB : Nat → Prop) (L : List (Nat × Array Value × Nat)) : Nat → Prop := fun b => M b ∨ RB b ∨ ∃ x ∈ L, b = x.1
structure Cx (w : World) (S M RB : Nat → Prop) (T P : (Nat → Prop) → World → Prop) (W : World) (L : List (Nat × Array Value × Nat)) : Prop where
  lk : ∀ x ∈ L, W.heap[x.1]? = some (.cells x.2.1 x.2.2 (0, 0)) ∧ w.heap.size ≤ x.1 ∧ ¬ M x.1 ∧ ¬ RB x.1
  ld : L.Pairwise (fun x y => x.1 ≠ y.1)
  mb : ∀ b, M b ∨ RB b → b < W.heap.size
  rb : ∀ b, RB b → w.heap.size ≤ b
  mr : ∀ b, M b → ¬ RB b
  t : T RB W
  ts : Ts M T
  p : P (Nx M RB L) W
  gd : Good P
  fs : Fs S w W
section
variable {w W W' : World} {S M RB : Nat → Prop} {T P : (Nat → Prop) → World → Prop} {L : List (Nat × Array Value × Nat)}
theorem Cx.start (hM : ∀ b, M b → b < w.heap.size) (ht : T (fun _ => False) w) (ts : Ts M T) (hp : P M w) (gd : Good P) : Cx w S M (fun _ => False) T P w [] :=
  ⟨fun x hx => by simp at hx, List.Pairwise.nil, fun b hb => hb.elim (hM b) (fun h => h.elim), fun b hb => hb.elim, fun _ _ h => h, ht, ts, gd.mono hp (fun b _ hb => by rcases hb with h | h | ⟨x, hx, _⟩; exact h; exact h.elim; simp at hx), gd, Fs.refl _ _⟩
theorem Cx.lt (h : Cx w S M RB T P W L) (b : Nat) (hb : Nx M RB L b) : b < W.heap.size := by
  rcases hb with hb | hb | ⟨x, hx, rfl⟩
  · exact h.mb b (.inl hb)
  · exact h.mb b (.inr hb)
  · exact blk_lt (h.lk x hx).1
theorem Cx.box (h : Cx w S M RB T P W L) {g t : Nat} {cs : Array Value} (hg : g = W.heap.size) (hb : W'.heap[g]? = some (.cells cs t (0, 0))) (hB : Below W.heap.size W W') : Cx w S M RB T P W' ((g, cs, t) :: L) := by
  have hw : w.heap.size ≤ W.heap.size := h.fs.size
  refine ⟨fun x hx => ?_, ?_, fun b hb => Nat.lt_of_lt_of_le (h.mb b hb) hB.size, h.rb, h.mr, h.ts _ _ _ h.t hB.size (fun b hb _ => hB.block b hb), h.ts, ?_, h.gd, h.fs.trans (Fs.of_below (S := S) hB) (fun _ h _ => h) (fun _ h _ => h)⟩
  · rcases List.mem_cons.1 hx with rfl | hx
    · exact ⟨hb, by show w.heap.size ≤ g; omega, fun hm => by have := h.mb g (.inl hm); omega, fun hm => by have := h.mb g (.inr hm); omega⟩
    · exact ⟨blk_below (h.lk x hx).1 hB, (h.lk x hx).2⟩
  · exact List.Pairwise.cons (fun x hx e => by have := blk_lt (h.lk x hx).1; have e : g = x.1 := e; omega) h.ld
  · refine h.gd.step (h.gd.mono h.p (fun b hb hn => ?_)) (Fs.of_below hB)
    rcases hn with hn | hn | ⟨x, hx, rfl⟩
    · exact .inl hn
    · exact .inr (.inl hn)
    · rcases List.mem_cons.1 hx with rfl | hx
      · have e : g < W.heap.size := hb; omega
      · exact .inr (.inr ⟨x, hx, rfl⟩)
theorem Cx.call (h : Cx w S M RB T P W L) (hB : Below W.heap.size W W') : Cx w S M RB T P W' L :=
  ⟨fun x hx => ⟨blk_below (h.lk x hx).1 hB, (h.lk x hx).2⟩, h.ld, fun b hb => Nat.lt_of_lt_of_le (h.mb b hb) hB.size, h.rb, h.mr, h.ts _ _ _ h.t hB.size (fun b hb _ => hB.block b hb), h.ts, h.gd.step h.p (Fs.of_below hB), h.gd, h.fs.trans (Fs.of_below (S := S) hB) (fun _ h _ => h) (fun _ h _ => h)⟩
theorem Cx.drawn (h : Cx w S M RB T P W L) (hB : Drawn0 W W') : Cx w S M RB T P W' L := by
  obtain ⟨n, rfl⟩ := hB
  exact h.call (pw_below_drewN (Below.refl _ _) n)
theorem Cx.drew1 (h : Cx w S M RB T P W L) : Cx w S M RB T P W.drew L := h.call (below_drew1 (Below.refl _ _))
theorem Cx.blk (h : Cx w S M RB T P W L) (i : Nat) {g t : Nat} {cs : Array Value} (hi : L[i]? = some (g, cs, t)) : W.heap[g]? = some (.cells cs t (0, 0)) := (h.lk _ (List.mem_of_getElem? hi)).1
theorem Cx.cell (h : Cx w S M RB T P W L) (i j : Nat) {g t : Nat} {cs : Array Value} {v : Value} (hi : L[i]? = some (g, cs, t)) (hj : cs[j]? = some v) : W.cell? ⟨g, j, none⟩ = some v := (blk_cell (h.blk i hi) j).trans hj
theorem Cx.froz (h : Cx w S M RB T P W L) (i j : Nat) {g t : Nat} {cs : Array Value} (hi : L[i]? = some (g, cs, t)) : W.frozen? ⟨g, j, none⟩ = false := blk_frozen (h.blk i hi) j
theorem Cx.set (h : Cx w S M RB T P W L) (i j : Nat) (v : Value) {g t : Nat} {cs cs' : Array Value} (hi : L[i]? = some (g, cs, t)) (e : cs.setIfInBounds j v = cs') : Cx w S M RB T P (W.setCell ⟨g, j, none⟩ v) (L.set i (g, cs', t)) := by
  have hm := h.lk _ (List.mem_of_getElem? hi)
  have hlt : i < L.length := (List.getElem?_eq_some_iff.1 hi).1
  have hget : L[i] = (g, cs, t) := (List.getElem?_eq_some_iff.1 hi).2
  have hF := Fs.set W g j v
  have hdis : ∀ k (hk : k < L.length), k ≠ i → (L[k]).1 ≠ g := by
    intro k hk hne e
    have hd := List.pairwise_iff_getElem.1 h.ld
    rcases Nat.lt_or_gt_of_ne hne with h1 | h1
    · exact hd k i hk hlt h1 (by rw [e, hget])
    · exact hd i k hlt hk h1 (by rw [e, hget])
  refine ⟨fun x hx => ?_, ?_, fun b hb => by have := h.mb b hb; exact Nat.lt_of_lt_of_le this hF.size, h.rb, h.mr, h.ts _ _ _ h.t hF.size (fun b hb hn => hF.block b hb (fun e => ?_)), h.ts, ?_, h.gd, h.fs.trans hF (fun _ h _ => h) (fun b e hb => ?_)⟩
  · obtain ⟨k, hk, rfl⟩ := List.mem_iff_getElem.1 hx
    rw [List.length_set] at hk
    by_cases hki : i = k
    · subst hki
      rw [List.getElem_set_self]
      exact ⟨blk_put hm.1 j v e, hm.2⟩
    · rw [List.getElem_set_ne hki]
      have hx' := h.lk _ (List.getElem_mem hk)
      exact ⟨blk_far hx'.1 (p := ⟨g, j, none⟩) (hdis k hk (fun e => hki e.symm)) v, hx'.2⟩
  · refine List.pairwise_iff_getElem.2 (fun a b ha hb hab => ?_)
    have hd := List.pairwise_iff_getElem.1 h.ld
    rw [List.length_set] at ha hb
    have key : ∀ k (hk : k < L.length), ((L.set i (g, cs', t))[k]'(by rw [List.length_set]; exact hk)).1 = (L[k]).1 := by
      intro k hk
      by_cases hki : i = k
      · subst hki; rw [List.getElem_set_self, hget]
      · rw [List.getElem_set_ne hki]
    rw [key a ha, key b hb]
    exact hd a b ha hb hab
  · subst e
    exact hn.elim hm.2.2.1 hm.2.2.2
  · refine h.gd.mono (h.gd.step h.p (hF.mono (fun b e _ => ?_))) (fun b _ hn => ?_)
    · subst e; exact .inr (.inr ⟨_, List.mem_of_getElem? hi, rfl⟩)
    · rcases hn with hn | hn | ⟨x, hx, rfl⟩
      · exact .inl hn
      · exact .inr (.inl hn)
      · obtain ⟨k, hk, rfl⟩ := List.mem_iff_getElem.1 hx
        rw [List.length_set] at hk
        refine .inr (.inr ⟨L[k], List.getElem_mem hk, ?_⟩)
        by_cases hki : i = k
        · subst hki; rw [List.getElem_set_self, hget]
        · rw [List.getElem_set_ne hki]
  · subst e
    have := hm.2.1
    have e2 : w.heap.size ≤ b := this
    omega
theorem Cx.ne (h : Cx w S M RB T P W L) (i : Nat) {g t : Nat} {cs : Array Value} (hi : L[i]? = some (g, cs, t)) {b : Nat} (hb : M b) : g ≠ b := by
  rintro rfl
  exact (h.lk _ (List.mem_of_getElem? hi)).2.2.1 hb
/-- What the walk may turn of elder blocks has been turned. -/
theorem Cx.turn (h : Cx w S M RB T P W L) {S' : Nat → Prop} {T' : (Nat → Prop) → World → Prop} (hF : Fs S' W W') (h1 : ∀ b, S' b → M b) (h2 : ∀ b, S' b → b < w.heap.size → S b) (ht : T' RB W') (hts : Ts M T') : Cx w S M RB T' P W' L :=
  ⟨fun x hx => ⟨(hF.block _ (blk_lt (h.lk x hx).1) (fun hs => (h.lk x hx).2.2.1 (h1 _ hs))).trans (h.lk x hx).1, (h.lk x hx).2⟩, h.ld, fun b hb => Nat.lt_of_lt_of_le (h.mb b hb) hF.size, h.rb, h.mr, ht, hts, h.gd.step h.p (hF.mono (fun b hb _ => .inl (h1 b hb))), h.gd, h.fs.trans hF (fun _ h _ => h) h2⟩
/-- Rows of the walk's own have been written, or made anew. -/
theorem Cx.rows (h : Cx w S M RB T P W L) {T' : (Nat → Prop) → World → Prop} (hF : Fs RB W W') (ht : T' (fun b => RB b ∨ (W.heap.size ≤ b ∧ b < W'.heap.size)) W') (hts : Ts M T') : Cx w S M (fun b => RB b ∨ (W.heap.size ≤ b ∧ b < W'.heap.size)) T' P W' L := by
  have hw : w.heap.size ≤ W.heap.size := h.fs.size
  refine ⟨fun x hx => ⟨(hF.block _ (blk_lt (h.lk x hx).1) (h.lk x hx).2.2.2).trans (h.lk x hx).1, (h.lk x hx).2.1, (h.lk x hx).2.2.1, fun hn => hn.elim (h.lk x hx).2.2.2 (fun hn => by have := blk_lt (h.lk x hx).1; omega)⟩, h.ld, fun b hb => ?_, fun b hb => hb.elim (h.rb b) (fun hb => by omega), fun b hm hn => hn.elim (h.mr b hm) (fun hn => by have := h.mb b (.inl hm); omega), ht, hts, ?_, h.gd, h.fs.trans hF (fun _ h _ => h) (fun b hb hlt => by have := h.rb b hb; omega)⟩
  · rcases hb with hb | hb | hb
    · exact Nat.lt_of_lt_of_le (h.mb b (.inl hb)) hF.size
    · exact Nat.lt_of_lt_of_le (h.mb b (.inr hb)) hF.size
    · exact hb.2
  · have h1 := h.gd.mono (N' := Nx M (fun b => RB b ∨ (W.heap.size ≤ b ∧ b < W'.heap.size)) L) h.p (fun b hb hn => ?_)
    · exact h.gd.step h1 (hF.mono (fun b hb _ => .inr (.inl (.inl hb))))
    · rcases hn with hn | (hn | hn) | hn
      · exact .inl hn
      · exact .inr (.inl hn)
      · omega
      · exact .inr (.inr hn)
theorem Cx.rows' (h : Cx w S M RB T P W L) {T' : (Nat → Prop) → World → Prop} (hF : Fs RB W W') (ht : ∀ RB' : Nat → Prop, (∀ b, RB b → RB' b) → (∀ b, W.heap.size ≤ b → b < W'.heap.size → RB' b) → T' RB' W') (hts : Ts M T') : ∃ RB', Cx w S M RB' T' P W' L :=
  ⟨_, h.rows hF (ht _ (fun _ h => .inl h) (fun _ h1 h2 => .inr ⟨h1, h2⟩)) hts⟩
/-- What of M stays while rows of the walk's own are written. -/
theorem Cx.keepM (h : Cx w S M RB T P W L) (hF : Fs RB W W') {g : Nat} {o : Obj} (hg : M g) (hb : W.heap[g]? = some o) : W'.heap[g]? = some o := (hF.block g (blk_lt hb) (h.mr g hg)).trans hb
theorem Cx.withP (h : Cx w S M RB T P W L) {P' : (Nat → Prop) → World → Prop} (hp : P' (Nx M RB L) W) (gd : Good P') : Cx w S M RB T P' W L := ⟨h.lk, h.ld, h.mb, h.rb, h.mr, h.t, h.ts, hp, gd, h.fs⟩
theorem Cx.withT (h : Cx w S M RB T P W L) {T' : (Nat → Prop) → World → Prop} (ht : T' RB W) (ts : Ts M T') : Cx w S M RB T' P W L := ⟨h.lk, h.ld, h.mb, h.rb, h.mr, ht, ts, h.p, h.gd, h.fs⟩
/-- What a call has made is none of what the walk may turn. -/
theorem Cx.fresh {α : Type} {d : Kd α} {e : Nat} {v : Value} {xs : List α} (h : Cx w S M RB T P W L) (hB : W.heap.size ≤ W'.heap.size) (hr : Kd.R d e W' W.heap.size (fun b => W.heap.size ≤ b) v xs) : Kd.R d e W' w.heap.size (fun b => ¬ Nx M RB L b) v xs :=
  Kd.R_lower (Kd.R_mono hr (fun b hb hn => by have := h.lt b hn; omega)) h.fs.size
theorem Cx.norm (h : Cx w S M RB T P W L) (L' : List (Nat × Array Value × Nat)) (e : L = L') : Cx w S M RB T P W L' := e ▸ h
/-- Blocks that are done with are let go. -/
theorem Cx.drop (h : Cx w S M RB T P W L) (n : Nat) : Cx w S M RB T P W (L.drop n) :=
  ⟨fun x hx => h.lk x (List.mem_of_mem_drop hx), h.ld.sublist (List.drop_sublist _ _), h.mb, h.rb, h.mr, h.t, h.ts, h.gd.mono h.p (fun b _ hn => by
    rcases hn with hn | hn | ⟨x, hx, e⟩
    · exact .inl hn
    · exact .inr (.inl hn)
    · exact .inr (.inr ⟨x, List.mem_of_mem_drop hx, e⟩)), h.gd, h.fs⟩
end
/-! ### the forms of a system under way -/
/-- The cells of the forms: each its number, and its row, which is none of N's. -/
def VE (n0 : Nat) (cs : Array Value) (xs : List S41) (N : Nat → Prop) (W : World) : Prop :=
  ∀ (i : Nat) (h : i < xs.length), ∃ s : Value, cs[i * 2]? = some (.int .i64 (xs[i]).f0) ∧ cs[i * 2 + 1]? = some s ∧ Kd.R k44 44 W n0 (fun b => ¬ N b) s (xs[i]).f1
theorem good_VE (n0 : Nat) (cs : Array Value) (xs : List S41) : Good (VE n0 cs xs) :=
  ⟨fun h hN i hi => by
    obtain ⟨s, h1, h2, h3⟩ := h i hi
    exact ⟨s, h1, h2, (good_R k44 44 n0 s _).mono h3 hN⟩, fun h hs i hi => by
    obtain ⟨s, h1, h2, h3⟩ := h i hi
    exact ⟨s, h1, h2, (good_R k44 44 n0 s _).step h3 hs⟩⟩
/-- No two forms lie in the same row. -/
def VD (cs : Array Value) (n : Nat) : Prop := ∀ (i j : Nat) (s t : Value), i < n → j < n → i ≠ j → cs[i * 2 + 1]? = some s → cs[j * 2 + 1]? = some t → ∀ b, s.ownBlock = some b → t.ownBlock ≠ some b
theorem set2_ne (cs : Array Value) (i j : Nat) (a b : Value) (h : i ≠ j) : ((cs.setIfInBounds (i * 2) a).setIfInBounds (i * 2 + 1) b)[j * 2]? = cs[j * 2]? ∧ ((cs.setIfInBounds (i * 2) a).setIfInBounds (i * 2 + 1) b)[j * 2 + 1]? = cs[j * 2 + 1]? := by
  constructor
  · rw [Array.getElem?_setIfInBounds_ne (by omega), Array.getElem?_setIfInBounds_ne (by omega)]
  · rw [Array.getElem?_setIfInBounds_ne (by omega), Array.getElem?_setIfInBounds_ne (by omega)]
theorem set2_at (cs : Array Value) (i : Nat) (a b x y : Value) (h0 : cs[i * 2]? = some x) (h1 : cs[i * 2 + 1]? = some y) : ((cs.setIfInBounds (i * 2) a).setIfInBounds (i * 2 + 1) b)[i * 2]? = some a ∧ ((cs.setIfInBounds (i * 2) a).setIfInBounds (i * 2 + 1) b)[i * 2 + 1]? = some b := by
  have l0 := (Array.getElem?_eq_some_iff.1 h0).1
  have l1 := (Array.getElem?_eq_some_iff.1 h1).1
  constructor
  · rw [Array.getElem?_setIfInBounds_ne (by omega), Array.getElem?_setIfInBounds_self_of_lt l0]
  · rw [Array.getElem?_setIfInBounds_self_of_lt (by simpa using l1)]
theorem set_mid {α : Type} (zs : List α) (y z : α) (rest : List α) : (zs ++ y :: rest).set zs.length z = (zs ++ [z]) ++ rest := by
  induction zs with
  | nil => rfl
  | cons a zs ih => simp only [List.cons_append, List.length_cons, List.set_cons_succ, ih]
/-- A form is replaced by one whose row is new. -/
theorem VE_put {n0 : Nat} {cs : Array Value} {xs ys : List S41} {N : Nat → Prop} {W : World} (i : Nat) (hi : i < xs.length) (y : S41) (s : Value) (hx : VE n0 cs xs N W) (hr : Kd.R k44 44 W n0 (fun b => ¬ N b) s y.f1) (hy : ys = xs.set i y) :
    VE n0 ((cs.setIfInBounds (i * 2) (.int .i64 y.f0)).setIfInBounds (i * 2 + 1) s) ys N W := by
  subst hy
  intro j hj
  rw [List.length_set] at hj
  obtain ⟨t, h1, h2, h3⟩ := hx j hj
  by_cases e : i = j
  · subst e
    obtain ⟨a1, a2⟩ := set2_at cs i (.int .i64 y.f0) s _ _ h1 h2
    rw [List.getElem_set_self]
    exact ⟨s, a1, a2, hr⟩
  · obtain ⟨a1, a2⟩ := set2_ne cs i j (.int .i64 y.f0) s e
    rw [List.getElem_set_ne e]
    exact ⟨t, a1.trans h1, a2.trans h2, h3⟩
theorem VD_put {n0 b0 : Nat} {cs : Array Value} {xs : List S41} {N : Nat → Prop} {W : World} (i : Nat) (a s : Value) (hx : VE n0 cs xs N W) (hb : W.heap.size ≤ b0) (hs : ∀ b, s.ownBlock = some b → b0 ≤ b) (hd : VD cs xs.length) (hi : i < xs.length) :
    VD ((cs.setIfInBounds (i * 2) a).setIfInBounds (i * 2 + 1) s) xs.length := by
  have old : ∀ (k : Nat) (t : Value), k < xs.length → cs[k * 2 + 1]? = some t → ∀ b, t.ownBlock = some b → b < b0 := by
    intro k t hk ht b hb2
    obtain ⟨t', h1, h2, h3⟩ := hx k hk
    rw [ht] at h2
    injection h2 with h2
    subst h2
    have := (Kd.R_bound h3).1 b hb2
    omega
  intro k l u v hk hl hne hu hv b hub hvb
  obtain ⟨t, h1, h2, h3⟩ := hx i hi
  have hat := (set2_at cs i a s _ _ h1 h2).2
  by_cases e1 : i = k
  · subst e1
    rw [hat] at hu
    injection hu with hu
    subst hu
    have e2 : i ≠ l := hne
    rw [(set2_ne cs i l a s e2).2] at hv
    have h5 := old l v hl hv b hvb
    have h6 := hs b hub
    omega
  · rw [(set2_ne cs i k a s e1).2] at hu
    by_cases e2 : i = l
    · subst e2
      rw [hat] at hv
      injection hv with hv
      subst hv
      have h5 := old k u hk hu b hub
      have h6 := hs b hvb
      omega
    · rw [(set2_ne cs i l a s e2).2] at hv
      exact hd k l u v hk hl hne hu hv b hub hvb
/-! ### what the methods come to -/
def euclid_put.l0 (k : Nat) (p t0 : Int) (t1 : List S44) : List S41 → Int → Option (List S41 × Int)
  | [], err => some ([], err)
  | x :: xs, err => (lin_Put.f k x.f0 x.f1 p t0 t1).bind fun r => (euclid_put.l0 k p t0 t1 xs (if r.2.2 = 0 then err else r.2.2)).bind fun s => some (⟨r.1, r.2.1⟩ :: s.1, s.2)
/-- In all forms, and one more, a parameter's place is taken: the one more, the forms, the error. -/
def euclid_put.f (k : Nat) (xs : List S41) (err f0 : Int) (f1 : List S44) (p t0 : Int) (t1 : List S44) : Option (S41 × List S41 × Int) :=
  (euclid_put.l0 k p t0 t1 xs err).bind fun s => (lin_Put.f k f0 f1 p t0 t1).bind fun r => some (⟨r.1, r.2.1⟩, s.1, if r.2.2 = 0 then s.2 else r.2.2)
theorem euclid_put.len (k : Nat) (p t0 : Int) (t1 : List S44) : ∀ (xs : List S41) (err : Int) (ys : List S41) (e : Int), euclid_put.l0 k p t0 t1 xs err = some (ys, e) → ys.length = xs.length := by
  intro xs
  induction xs with
  | nil =>
    intro err ys e h
    simp only [euclid_put.l0, Option.some.injEq, Prod.mk.injEq] at h
    rw [← h.1]
  | cons x xs ih =>
    intro err ys e h
    simp only [euclid_put.l0] at h
    obtain ⟨r, hr, h⟩ := Option.bind_eq_some_iff.1 h
    obtain ⟨s, hs, h⟩ := Option.bind_eq_some_iff.1 h
    simp only [Option.some.injEq, Prod.mk.injEq] at h
    rw [← h.1, List.length_cons, List.length_cons, ih _ _ _ hs]
theorem ze0 {W : World} {g t : Nat} {x0 : Value} {l : List Value} (h : W.heap[g]? = some (.cells (x0 :: l).toArray t (0, 0))) : W.cell? ⟨g, 0, none⟩ = some x0 := by rw [blk_cell h 0]; simp
theorem ze1 {W : World} {g t : Nat} {x0 x1 : Value} {l : List Value} (h : W.heap[g]? = some (.cells (x0 :: x1 :: l).toArray t (0, 0))) : W.cell? ⟨g, 1, none⟩ = some x1 := by rw [blk_cell h 1]; simp
theorem ze2 {W : World} {g t : Nat} {x0 x1 x2 : Value} {l : List Value} (h : W.heap[g]? = some (.cells (x0 :: x1 :: x2 :: l).toArray t (0, 0))) : W.cell? ⟨g, 2, none⟩ = some x2 := by rw [blk_cell h 2]; simp
theorem ze3 {W : World} {g t : Nat} {x0 x1 x2 x3 : Value} {l : List Value} (h : W.heap[g]? = some (.cells (x0 :: x1 :: x2 :: x3 :: l).toArray t (0, 0))) : W.cell? ⟨g, 3, none⟩ = some x3 := by rw [blk_cell h 3]; simp
theorem ze4 {W : World} {g t : Nat} {x0 x1 x2 x3 x4 : Value} {l : List Value} (h : W.heap[g]? = some (.cells (x0 :: x1 :: x2 :: x3 :: x4 :: l).toArray t (0, 0))) : W.cell? ⟨g, 4, none⟩ = some x4 := by rw [blk_cell h 4]; simp
theorem ze5 {W : World} {g t : Nat} {x0 x1 x2 x3 x4 x5 : Value} {l : List Value} (h : W.heap[g]? = some (.cells (x0 :: x1 :: x2 :: x3 :: x4 :: x5 :: l).toArray t (0, 0))) : W.cell? ⟨g, 5, none⟩ = some x5 := by rw [blk_cell h 5]; simp
/-! ### the steps of a walk, short -/
section
variable {w W W' : World} {S M RB : Nat → Prop} {T P : (Nat → Prop) → World → Prop} {L L' : List (Nat × Array Value × Nat)}
theorem Cx.wh_ (i g t : Nat) : ∀ (vals : List Value) (j : Nat) (cs : Array Value) (W : World) (L : List (Nat × Array Value × Nat)), Cx w S M RB T P W L → L[i]? = some (g, cs, t) → j + vals.length = cs.size → ∃ cs' : Array Value, cs'.toList = cs.toList.take j ++ vals ∧ Cx w S M RB T P (W.setCells g j vals) (L.set i (g, cs', t))
  | [], j, cs, W, L, h, hi, hl => ⟨cs, by
      have : j = cs.toList.length := by simpa using hl
      rw [List.append_nil, this, List.take_length], by
      have hlt := (List.getElem?_eq_some_iff.1 hi).1
      have he := (List.getElem?_eq_some_iff.1 hi).2
      rw [← he, List.set_getElem_self]
      exact h⟩
  | v :: r, j, cs, W, L, h, hi, hl => by
    have h1 := h.set i j v hi rfl
    have hlt := (List.getElem?_eq_some_iff.1 hi).1
    obtain ⟨cs', e, h2⟩ := Cx.wh_ i g t r (j + 1) (cs.setIfInBounds j v) _ _ h1 (by rw [List.getElem?_set_self hlt]) (by rw [Array.size_setIfInBounds, ← hl, List.length_cons]; omega)
    rw [List.set_set] at h2
    refine ⟨cs', ?_, h2⟩
    have hj : j < cs.toList.length := by rw [Array.length_toList, ← hl, List.length_cons]; omega
    rw [e, Array.toList_setIfInBounds, List.take_succ_eq_append_getElem (by rw [List.length_set]; exact hj), List.getElem_set_self, List.take_set_of_le (Nat.le_refl j), List.append_assoc]
    rfl
theorem Cx.wh (h : Cx w S M RB T P W L) (i : Nat) {g t : Nat} {cs : Array Value} (vals : List Value) (hi : L[i]? = some (g, cs, t)) (hl : vals.length = cs.size) : Cx w S M RB T P (W.setCells g 0 vals) (L.set i (g, vals.toArray, t)) := by
  obtain ⟨cs', e, h2⟩ := Cx.wh_ i g t vals 0 cs W L h hi (by omega)
  have e2 : cs' = vals.toArray := by
    apply Array.toList_inj.1
    rw [e]; simp
  rw [← e2]
  exact h2
theorem Cx.wh0n2 {g t : Nat} {x0 x1 y0 y1 : Value} (h : Cx w S M RB T P W ((g, #[x0, x1], t) :: L)) : Cx w S M RB T P (W.setCells g 0 [y0, y1]) ((g, #[y0, y1], t) :: L) := h.wh 0 [y0, y1] rfl rfl
theorem Cx.wh1n2 {g t : Nat} {z0 : (Nat × Array Value × Nat)} {x0 x1 y0 y1 : Value} (h : Cx w S M RB T P W (z0 :: (g, #[x0, x1], t) :: L)) : Cx w S M RB T P (W.setCells g 0 [y0, y1]) (z0 :: (g, #[y0, y1], t) :: L) := h.wh 1 [y0, y1] rfl rfl
theorem Cx.wh2n2 {g t : Nat} {z0 z1 : (Nat × Array Value × Nat)} {x0 x1 y0 y1 : Value} (h : Cx w S M RB T P W (z0 :: z1 :: (g, #[x0, x1], t) :: L)) : Cx w S M RB T P (W.setCells g 0 [y0, y1]) (z0 :: z1 :: (g, #[y0, y1], t) :: L) := h.wh 2 [y0, y1] rfl rfl
theorem Cx.wh3n2 {g t : Nat} {z0 z1 z2 : (Nat × Array Value × Nat)} {x0 x1 y0 y1 : Value} (h : Cx w S M RB T P W (z0 :: z1 :: z2 :: (g, #[x0, x1], t) :: L)) : Cx w S M RB T P (W.setCells g 0 [y0, y1]) (z0 :: z1 :: z2 :: (g, #[y0, y1], t) :: L) := h.wh 3 [y0, y1] rfl rfl
theorem Cx.wh4n2 {g t : Nat} {z0 z1 z2 z3 : (Nat × Array Value × Nat)} {x0 x1 y0 y1 : Value} (h : Cx w S M RB T P W (z0 :: z1 :: z2 :: z3 :: (g, #[x0, x1], t) :: L)) : Cx w S M RB T P (W.setCells g 0 [y0, y1]) (z0 :: z1 :: z2 :: z3 :: (g, #[y0, y1], t) :: L) := h.wh 4 [y0, y1] rfl rfl
theorem Cx.wh5n2 {g t : Nat} {z0 z1 z2 z3 z4 : (Nat × Array Value × Nat)} {x0 x1 y0 y1 : Value} (h : Cx w S M RB T P W (z0 :: z1 :: z2 :: z3 :: z4 :: (g, #[x0, x1], t) :: L)) : Cx w S M RB T P (W.setCells g 0 [y0, y1]) (z0 :: z1 :: z2 :: z3 :: z4 :: (g, #[y0, y1], t) :: L) := h.wh 5 [y0, y1] rfl rfl
theorem Cx.wh0n3 {g t : Nat} {x0 x1 x2 y0 y1 y2 : Value} (h : Cx w S M RB T P W ((g, #[x0, x1, x2], t) :: L)) : Cx w S M RB T P (W.setCells g 0 [y0, y1, y2]) ((g, #[y0, y1, y2], t) :: L) := h.wh 0 [y0, y1, y2] rfl rfl
theorem Cx.wh1n3 {g t : Nat} {z0 : (Nat × Array Value × Nat)} {x0 x1 x2 y0 y1 y2 : Value} (h : Cx w S M RB T P W (z0 :: (g, #[x0, x1, x2], t) :: L)) : Cx w S M RB T P (W.setCells g 0 [y0, y1, y2]) (z0 :: (g, #[y0, y1, y2], t) :: L) := h.wh 1 [y0, y1, y2] rfl rfl
theorem Cx.wh2n3 {g t : Nat} {z0 z1 : (Nat × Array Value × Nat)} {x0 x1 x2 y0 y1 y2 : Value} (h : Cx w S M RB T P W (z0 :: z1 :: (g, #[x0, x1, x2], t) :: L)) : Cx w S M RB T P (W.setCells g 0 [y0, y1, y2]) (z0 :: z1 :: (g, #[y0, y1, y2], t) :: L) := h.wh 2 [y0, y1, y2] rfl rfl
theorem Cx.wh3n3 {g t : Nat} {z0 z1 z2 : (Nat × Array Value × Nat)} {x0 x1 x2 y0 y1 y2 : Value} (h : Cx w S M RB T P W (z0 :: z1 :: z2 :: (g, #[x0, x1, x2], t) :: L)) : Cx w S M RB T P (W.setCells g 0 [y0, y1, y2]) (z0 :: z1 :: z2 :: (g, #[y0, y1, y2], t) :: L) := h.wh 3 [y0, y1, y2] rfl rfl
theorem Cx.wh4n3 {g t : Nat} {z0 z1 z2 z3 : (Nat × Array Value × Nat)} {x0 x1 x2 y0 y1 y2 : Value} (h : Cx w S M RB T P W (z0 :: z1 :: z2 :: z3 :: (g, #[x0, x1, x2], t) :: L)) : Cx w S M RB T P (W.setCells g 0 [y0, y1, y2]) (z0 :: z1 :: z2 :: z3 :: (g, #[y0, y1, y2], t) :: L) := h.wh 4 [y0, y1, y2] rfl rfl
theorem Cx.wh5n3 {g t : Nat} {z0 z1 z2 z3 z4 : (Nat × Array Value × Nat)} {x0 x1 x2 y0 y1 y2 : Value} (h : Cx w S M RB T P W (z0 :: z1 :: z2 :: z3 :: z4 :: (g, #[x0, x1, x2], t) :: L)) : Cx w S M RB T P (W.setCells g 0 [y0, y1, y2]) (z0 :: z1 :: z2 :: z3 :: z4 :: (g, #[y0, y1, y2], t) :: L) := h.wh 5 [y0, y1, y2] rfl rfl
theorem Cx.wh0n6 {g t : Nat} {x0 x1 x2 x3 x4 x5 y0 y1 y2 y3 y4 y5 : Value} (h : Cx w S M RB T P W ((g, #[x0, x1, x2, x3, x4, x5], t) :: L)) : Cx w S M RB T P (W.setCells g 0 [y0, y1, y2, y3, y4, y5]) ((g, #[y0, y1, y2, y3, y4, y5], t) :: L) := h.wh 0 [y0, y1, y2, y3, y4, y5] rfl rfl
theorem Cx.wh1n6 {g t : Nat} {z0 : (Nat × Array Value × Nat)} {x0 x1 x2 x3 x4 x5 y0 y1 y2 y3 y4 y5 : Value} (h : Cx w S M RB T P W (z0 :: (g, #[x0, x1, x2, x3, x4, x5], t) :: L)) : Cx w S M RB T P (W.setCells g 0 [y0, y1, y2, y3, y4, y5]) (z0 :: (g, #[y0, y1, y2, y3, y4, y5], t) :: L) := h.wh 1 [y0, y1, y2, y3, y4, y5] rfl rfl
theorem Cx.fl0 {g t : Nat} {cs : Array Value} (j : Nat) (v : Value) (cs' : Array Value) (e : cs.setIfInBounds j v = cs' := by rfl) (h : Cx w S M RB T P W ((g, cs, t) :: L)) : Cx w S M RB T P (W.setCell ⟨g, j, none⟩ v) ((g, cs', t) :: L) := h.set 0 j v rfl e
theorem Cx.fl1 {g t : Nat} {cs : Array Value} {x0 : (Nat × Array Value × Nat)} (j : Nat) (v : Value) (cs' : Array Value) (e : cs.setIfInBounds j v = cs' := by rfl) (h : Cx w S M RB T P W (x0 :: (g, cs, t) :: L)) : Cx w S M RB T P (W.setCell ⟨g, j, none⟩ v) (x0 :: (g, cs', t) :: L) := h.set 1 j v rfl e
theorem Cx.fl3 {g t : Nat} {cs : Array Value} {x0 x1 x2 : (Nat × Array Value × Nat)} (j : Nat) (v : Value) (cs' : Array Value) (e : cs.setIfInBounds j v = cs' := by rfl) (h : Cx w S M RB T P W (x0 :: x1 :: x2 :: (g, cs, t) :: L)) : Cx w S M RB T P (W.setCell ⟨g, j, none⟩ v) (x0 :: x1 :: x2 :: (g, cs', t) :: L) := h.set 3 j v rfl e
variable {ops : Array Oper} {rest : List Oper} {o : Oper} {a : Act} {Q : Exit → Act → World → Prop}
theorem boxA (CX : Aside0 (Cx w S M RB T P W L)) (t : Nat) (cs : Array Value) (k : ∀ g W', Aside0 (Cx w S M RB T P W' ((g, cs, t) :: L)) → wpList Try.prog ops Q rest (a.put o.dst (.pointer (some ⟨g, 0, none⟩))) W')
    (hg : o.guard = none := by rfl) (hr : (execOp a.eval o).run Try.prog W = .ok (.value (.pointer (some ⟨W.heap.size, 0, none⟩))) (W.alloc (.cells cs t (0, 0))) := by first | (go_simp; done) | (go_simp; rfl)) : wpList Try.prog ops Q (o :: rest) a W :=
  Kd.event_run hg hr (k _ _ ⟨CX.out.box rfl (blk_new W _) (below_alloc (Below.refl _ _) _)⟩)
theorem storeW (CX : Aside0 (Cx w S M RB T P W L)) {w1 : World} (hcx : Cx w S M RB T P W L → Cx w S M RB T P w1 L') (hr : (execOp a.eval o).run Try.prog W = .ok .skip w1) (k : ∀ W', Aside0 (Cx w S M RB T P W' L') → wpList Try.prog ops Q rest a W')
    (hg : o.guard = none := by rfl) (hN : o.dst = none := by rfl) : wpList Try.prog ops Q (o :: rest) a W := by
  refine wpList_plain hg fun K hK => ?_
  unfold Oper.wp
  rw [hr]
  show K (a.put o.dst undef) w1
  rw [hN]
  exact hK _ _ (k _ ⟨hcx CX.out⟩)
theorem st41 {p q : Operand} {g tt : Nat} {x0 x1 : Value} {i0 : Int} {A1 : Option Addr} {n1 c1 : Nat} (hb : W.heap[g]? = some (.cells #[x0, x1] tt (0, 0))) (ho : o.op = .store 41 p q := by rfl) (hp : a.eval p = .pointer (some ⟨g, 0, none⟩) := by rfl) (hq : a.eval q = .agg #[.int .i64 i0, .slice A1 n1 c1] := by rfl) : (execOp a.eval o).run Try.prog W = .ok .skip (W.setCells g 0 [.int .i64 i0, .slice A1 n1 c1]) := by
  have hu := Try.underlying41
  have c0_ : W.cell? ⟨g, 0, none⟩ = some x0 := (blk_cell hb 0).trans rfl
  have f0_ := blk_frozen hb 0
  have c1_ : W.cell? ⟨g, 1, none⟩ = some x1 := (blk_cell hb 1).trans rfl
  have f1_ := blk_frozen hb 1
  unfold execOp
  rw [ho]
  simp only [hp, hq, World.setCells]
  first | (go_simp; done) | (go_simp; rfl)
theorem st44 {p q : Operand} {g tt : Nat} {x0 x1 : Value} {i0 i1 : Int} (hb : W.heap[g]? = some (.cells #[x0, x1] tt (0, 0))) (ho : o.op = .store 44 p q := by rfl) (hp : a.eval p = .pointer (some ⟨g, 0, none⟩) := by rfl) (hq : a.eval q = .agg #[.int .i64 i0, .int .i64 i1] := by rfl) : (execOp a.eval o).run Try.prog W = .ok .skip (W.setCells g 0 [.int .i64 i0, .int .i64 i1]) := by
  have hu := Try.underlying44
  have c0_ : W.cell? ⟨g, 0, none⟩ = some x0 := (blk_cell hb 0).trans rfl
  have f0_ := blk_frozen hb 0
  have c1_ : W.cell? ⟨g, 1, none⟩ = some x1 := (blk_cell hb 1).trans rfl
  have f1_ := blk_frozen hb 1
  unfold execOp
  rw [ho]
  simp only [hp, hq, World.setCells]
  first | (go_simp; done) | (go_simp; rfl)
theorem st88 {p q : Operand} {g tt : Nat} {x0 x1 x2 : Value} {i1 : Int} {A0 : Option Addr} {n0 c0 : Nat} {b2 : Bool} (hb : W.heap[g]? = some (.cells #[x0, x1, x2] tt (0, 0))) (ho : o.op = .store 88 p q := by rfl) (hp : a.eval p = .pointer (some ⟨g, 0, none⟩) := by rfl) (hq : a.eval q = .agg #[.slice A0 n0 c0, .int .i64 i1, .bool b2] := by rfl) : (execOp a.eval o).run Try.prog W = .ok .skip (W.setCells g 0 [.slice A0 n0 c0, .int .i64 i1, .bool b2]) := by
  have hu := Try.underlying88
  have c0_ : W.cell? ⟨g, 0, none⟩ = some x0 := (blk_cell hb 0).trans rfl
  have f0_ := blk_frozen hb 0
  have c1_ : W.cell? ⟨g, 1, none⟩ = some x1 := (blk_cell hb 1).trans rfl
  have f1_ := blk_frozen hb 1
  have c2_ : W.cell? ⟨g, 2, none⟩ = some x2 := (blk_cell hb 2).trans rfl
  have f2_ := blk_frozen hb 2
  unfold execOp
  rw [ho]
  simp only [hp, hq, World.setCells]
  first | (go_simp; done) | (go_simp; rfl)
theorem st96 {p q : Operand} {g tt : Nat} {x0 x1 x2 x3 x4 x5 : Value} {i0 i1 i2 i4 : Int} {A3 : Option Addr} {n3 c3 : Nat} {b5 : Bool} (hb : W.heap[g]? = some (.cells #[x0, x1, x2, x3, x4, x5] tt (0, 0))) (ho : o.op = .store 96 p q := by rfl) (hp : a.eval p = .pointer (some ⟨g, 0, none⟩) := by rfl) (hq : a.eval q = .agg #[.int .i64 i0, .int .i64 i1, .int .i64 i2, .slice A3 n3 c3, .int .i64 i4, .bool b5] := by rfl) : (execOp a.eval o).run Try.prog W = .ok .skip (W.setCells g 0 [.int .i64 i0, .int .i64 i1, .int .i64 i2, .slice A3 n3 c3, .int .i64 i4, .bool b5]) := by
  have hu := Try.underlying96
  have c0_ : W.cell? ⟨g, 0, none⟩ = some x0 := (blk_cell hb 0).trans rfl
  have f0_ := blk_frozen hb 0
  have c1_ : W.cell? ⟨g, 1, none⟩ = some x1 := (blk_cell hb 1).trans rfl
  have f1_ := blk_frozen hb 1
  have c2_ : W.cell? ⟨g, 2, none⟩ = some x2 := (blk_cell hb 2).trans rfl
  have f2_ := blk_frozen hb 2
  have c3_ : W.cell? ⟨g, 3, none⟩ = some x3 := (blk_cell hb 3).trans rfl
  have f3_ := blk_frozen hb 3
  have c4_ : W.cell? ⟨g, 4, none⟩ = some x4 := (blk_cell hb 4).trans rfl
  have f4_ := blk_frozen hb 4
  have c5_ : W.cell? ⟨g, 5, none⟩ = some x5 := (blk_cell hb 5).trans rfl
  have f5_ := blk_frozen hb 5
  unfold execOp
  rw [ho]
  simp only [hp, hq, World.setCells]
  first | (go_simp; done) | (go_simp; rfl)
theorem st32 {p q : Operand} {g tt : Nat} {x0 x1 : Value} {i1 : Int} {A0 : Option Addr} {n0 c0 : Nat} (hb : W.heap[g]? = some (.cells #[x0, x1] tt (0, 0))) (ho : o.op = .store 32 p q := by rfl) (hp : a.eval p = .pointer (some ⟨g, 0, none⟩) := by rfl) (hq : a.eval q = .agg #[.slice A0 n0 c0, .int .i64 i1] := by rfl) : (execOp a.eval o).run Try.prog W = .ok .skip (W.setCells g 0 [.slice A0 n0 c0, .int .i64 i1]) := by
  have hu := Try.underlying32
  have c0_ : W.cell? ⟨g, 0, none⟩ = some x0 := (blk_cell hb 0).trans rfl
  have f0_ := blk_frozen hb 0
  have c1_ : W.cell? ⟨g, 1, none⟩ = some x1 := (blk_cell hb 1).trans rfl
  have f1_ := blk_frozen hb 1
  unfold execOp
  rw [ho]
  simp only [hp, hq, World.setCells]
  first | (go_simp; done) | (go_simp; rfl)
theorem st39 {p q : Operand} {g tt : Nat} {x0 x1 : Value} {A0 : Option Addr} {n0 c0 : Nat} (hb : W.heap[g]? = some (.cells #[x0, x1] tt (0, 0))) (ho : o.op = .store 39 p q := by rfl) (hp : a.eval p = .pointer (some ⟨g, 1, none⟩) := by rfl) (hq : a.eval q = .slice A0 n0 c0 := by first | rfl | (go_simp; done) | (go_simp; rfl)) : (execOp a.eval o).run Try.prog W = .ok .skip (W.setCell ⟨g, 1, none⟩ (.slice A0 n0 c0)) := by
  have c0_ : W.cell? ⟨g, 1, none⟩ = some x1 := (blk_cell hb 1).trans rfl
  have f0_ := blk_frozen hb 1
  unfold execOp
  rw [ho]
  simp only [hp, hq, World.setCells]
  first | (go_simp; done) | (go_simp; rfl)
theorem st22 {p q : Operand} {g tt : Nat} {x0 x1 : Value} {A0 : Option Addr} {n0 c0 : Nat} (hb : W.heap[g]? = some (.cells #[x0, x1] tt (0, 0))) (ho : o.op = .store 22 p q := by rfl) (hp : a.eval p = .pointer (some ⟨g, 0, none⟩) := by rfl) (hq : a.eval q = .slice A0 n0 c0 := by first | rfl | (go_simp; done) | (go_simp; rfl)) : (execOp a.eval o).run Try.prog W = .ok .skip (W.setCell ⟨g, 0, none⟩ (.slice A0 n0 c0)) := by
  have c0_ : W.cell? ⟨g, 0, none⟩ = some x0 := (blk_cell hb 0).trans rfl
  have f0_ := blk_frozen hb 0
  unfold execOp
  rw [ho]
  simp only [hp, hq, World.setCells]
  first | (go_simp; done) | (go_simp; rfl)
theorem st22w {p q : Operand} {g tt : Nat} {x0 x1 x2 : Value} {A0 : Option Addr} {n0 c0 : Nat} (hb : W.heap[g]? = some (.cells #[x0, x1, x2] tt (0, 0))) (ho : o.op = .store 22 p q := by rfl) (hp : a.eval p = .pointer (some ⟨g, 0, none⟩) := by rfl) (hq : a.eval q = .slice A0 n0 c0 := by first | rfl | (go_simp; done) | (go_simp; rfl)) : (execOp a.eval o).run Try.prog W = .ok .skip (W.setCell ⟨g, 0, none⟩ (.slice A0 n0 c0)) := by
  have c0_ : W.cell? ⟨g, 0, none⟩ = some x0 := (blk_cell hb 0).trans rfl
  have f0_ := blk_frozen hb 0
  unfold execOp
  rw [ho]
  simp only [hp, hq, World.setCells]
  first | (go_simp; done) | (go_simp; rfl)
theorem st3 {p q : Operand} {g tt : Nat} {x0 x1 : Value} {i0 : Int} (hb : W.heap[g]? = some (.cells #[x0, x1] tt (0, 0))) (ho : o.op = .store 3 p q := by rfl) (hp : a.eval p = .pointer (some ⟨g, 1, none⟩) := by rfl) (hq : a.eval q = .int .i64 i0 := by first | rfl | (go_simp; done) | (go_simp; rfl)) : (execOp a.eval o).run Try.prog W = .ok .skip (W.setCell ⟨g, 1, none⟩ (.int .i64 i0)) := by
  have c0_ : W.cell? ⟨g, 1, none⟩ = some x1 := (blk_cell hb 1).trans rfl
  have f0_ := blk_frozen hb 1
  unfold execOp
  rw [ho]
  simp only [hp, hq, World.setCells]
  first | (go_simp; done) | (go_simp; rfl)
end
section
variable {ops : Array Oper} {Q : Exit → Act → World → Prop} {S : World → Prop} {ds : List Nat}
theorem any_ofA {md : Region.Mode} {T : Bool × List (List Nat × List Nat)} {l l' : Array Bool} {i : Nat} (hT : Aside0 (rtab md ops = T)) (h : anyT T l.toList l'.toList i = true) : anyB md ops l l' i = true := any_of hT.out h
theorem take_ofA {md : Region.Mode} {T : Bool × List (List Nat × List Nat)} {B : List Nat} {l l' : Array Bool} {i : Nat} (hT : Aside0 (rtab md ops = T)) (hB : Aside0 (waitsOk T.2 B = true)) (h : takeW T B ds l.toList l'.toList i = true) : takeB md ops ds l l' i = true := take_ofW hT.out hB.out h
theorem pureA (i N : Nat) (l' : Array Bool) {oi : Oper} {v : Value} {a a' : Act} {fuel : Nat} {l : Array Bool} {w : World} (k : wpAnyLast Try.prog .any ops Q S ds fuel l' a' w) (hi : ops[i]? = some oi := by rfl) (hN : oi.dst = some N := by rfl)
    (hc : anyB .any ops l l' i = true := by exact any_ofA (by assumption) (by kernel_rfl)) (hQ : ∀ c a w, Q (.panic c) (a.put oi.dst v) w → Q (.panic c) a w := by exact fun _ _ _ h => h)
    (hy : Yields Try.prog ops oi v a := by exact Or.inl ⟨by rfl, by (intro w'; go_simp; with_reducible rfl)⟩) (ha : a.put (some N) v = a' := by (simp only [Act.put, List.setIfInBounds_toArray, List.set_cons_zero, List.set_cons_succ, i64_w, i32_w]; rfl)) :
    wpAnyLast Try.prog .any ops Q S ds (fuel + 1) l a w := pure_ l' hi hN hc hQ hy ha k
theorem takeA (i N : Nat) (l' : Array Bool) {oi : Oper} {v : Value} {a a' : Act} {fuel : Nat} {l : Array Bool} {w : World} (k : wpAnyLast Try.prog .any ops Q S ds fuel l' a' w) (hi : ops[i]? = some oi := by rfl) (hN : oi.dst = some N := by rfl)
    (hc : takeB .any ops ds l l' i = true := by exact take_ofA (by assumption) (by assumption) (by kernel_rfl)) (hQ : ∀ c a w, Q (.panic c) (a.put oi.dst v) w → Q (.panic c) a w := by exact fun _ _ _ h => h) (hS : S w := by assumption)
    (hy : YieldsIf Try.prog ops S oi v a := by exact Or.inl ⟨by rfl, by (intro w' hs; (repeat (have s_ := hs.1; replace hs := hs.2)); go_simp; with_reducible rfl)⟩) (ha : a.put (some N) v = a' := by (simp only [Act.put, List.setIfInBounds_toArray, List.set_cons_zero, List.set_cons_succ, i64_w, i32_w]; rfl)) :
    wpAnyLast Try.prog .any ops Q S ds (fuel + 1) l a w := take_ l' hi hN hc hQ hy hS ha k
theorem normA (N : Nat) {v : Value} {a a' : Act} {fuel : Nat} {l : Array Bool} {w : World} (k : wpAnyLast Try.prog .any ops Q S ds fuel l a' w) (ha : a.put (some N) v = a' := by (simp only [Act.put, List.setIfInBounds_toArray, List.set_cons_zero, List.set_cons_succ, i64_w, i32_w]; rfl)) :
    wpAnyLast Try.prog .any ops Q S ds fuel l (a.put (some N) v) w := norm_ ha k
/-- n flags, by the bits of m. -/
def lB (n m : Nat) : Array Bool := ((List.range n).map (fun i => m.testBit i)).toArray
end
section
variable {w W : World} {S M RB : Nat → Prop} {T P : (Nat → Prop) → World → Prop} {L : List (Nat × Array Value × Nat)} {ops : Array Oper} {rest : List Oper} {o : Oper} {a : Act} {Q : Exit → Act → World → Prop}
theorem boxB (CX : Aside0 (Cx w S M RB T P W L)) (t : Nat) (cs : Array Value) (k : ∀ g W', Aside0 (Cx w S M RB T P W' ((g, cs, t) :: L)) → Below W.heap.size W W' → wpList Try.prog ops Q rest (a.put o.dst (.pointer (some ⟨g, 0, none⟩))) W')
    (hg : o.guard = none := by rfl) (hr : (execOp a.eval o).run Try.prog W = .ok (.value (.pointer (some ⟨W.heap.size, 0, none⟩))) (W.alloc (.cells cs t (0, 0))) := by first | (go_simp; done) | (go_simp; rfl)) : wpList Try.prog ops Q (o :: rest) a W :=
  Kd.event_run hg hr (k _ _ ⟨CX.out.box rfl (blk_new W _) (below_alloc (Below.refl _ _) _)⟩ (below_alloc (Below.refl _ _) _))
end
section
variable {w W : World} {S M RB : Nat → Prop} {T P : (Nat → Prop) → World → Prop} {L L' : List (Nat × Array Value × Nat)} {ops : Array Oper} {oi : Oper} {a : Act} {Q : Exit → Act → World → Prop} {K : Act → World → Prop}
theorem skipW (CX : Aside0 (Cx w S M RB T P W L)) {w1 : World} (hcx : Cx w S M RB T P W L → Cx w S M RB T P w1 L') (hr : (execOp a.eval oi).run Try.prog W = .ok .skip w1) (k : ∀ W', Aside0 (Cx w S M RB T P W' L') → K a W')
    (hw : Region.wanted oi (yielded ops a.tmps) = true := by rfl) (hN : oi.dst = none := by rfl) : if Region.wanted oi (yielded ops a.tmps) = true then Oper.wp Try.prog oi a W K Q else K (a.put none undef) W := skip_ hw hN hr (k w1 ⟨hcx CX.out⟩)
end
/-! ### rows of forms, their rows left as they lie -/
def kraw : Kd (Int × Value) where
  sz := 2
  E := []
  K := fun _ x cs => cs = [.int .i64 x.1, x.2] ∧ x.2.oneCell' = true
  M := fun _ _ _ x cs => cs = [.int .i64 x.1, x.2] ∧ x.2.oneCell' = true
  K_len := fun h => by rw [h.1]; rfl
  K_one := fun h u hu => by
    rw [h.1] at hu
    rcases List.mem_cons.1 hu with rfl | hu
    · rfl
    · rw [List.mem_singleton.1 hu]; exact h.2
  K_below := fun _ h => h
  K_of_M := fun h => h
  M_mono := fun _ h => h
  M_bound := fun h => h
  M_move := fun _ h => h
  M_lower := fun _ h => h
theorem V_one {α : Type} {d : Kd α} {e base : Nat} {W : World} {ok : Nat → Prop} {v : Value} {xs : List α} (h : Kd.V d e W base ok v xs) : v.oneCell' = true := by
  obtain ⟨A, c, rfl, _⟩ := h
  rfl
def FV (fl : List (Int × Value)) (fS : List S41) (N : Nat → Prop) (W : World) : Prop := fl.length = fS.length ∧ ∀ (i : Nat) (h : i < fS.length), ∃ v, fl[i]? = some ((fS[i]).f0, v) ∧ Kd.V k44 44 W 0 (fun b => ¬ N b) v (fS[i]).f1
theorem good_FV (fl : List (Int × Value)) (fS : List S41) : Good (FV fl fS) :=
  ⟨fun h hN => ⟨h.1, fun i hi => by
    obtain ⟨v, h1, h2⟩ := h.2 i hi
    exact ⟨v, h1, (good_V k44 44 0 v _).mono h2 hN⟩⟩, fun h hs => ⟨h.1, fun i hi => by
    obtain ⟨v, h1, h2⟩ := h.2 i hi
    exact ⟨v, h1, (good_V k44 44 0 v _).step h2 hs⟩⟩⟩
theorem FV_snoc {fl : List (Int × Value)} {fS : List S41} {N : Nat → Prop} {W : World} (h : FV fl fS N W) (K : Int) (v : Value) (l : List S44) (hv : Kd.V k44 44 W 0 (fun b => ¬ N b) v l) : FV (fl ++ [(K, v)]) (fS ++ [⟨K, l⟩]) N W := by
  refine ⟨by simp [h.1], fun i hi => ?_⟩
  by_cases hlt : i < fS.length
  · obtain ⟨u, h1, h2⟩ := h.2 i hlt
    refine ⟨u, ?_, ?_⟩
    · rw [List.getElem?_append_left (by rw [h.1]; exact hlt), List.getElem_append_left hlt]; exact h1
    · rw [List.getElem_append_left hlt]; exact h2
  · have e : i = fS.length := by simp at hi; omega
    subst e
    refine ⟨v, ?_, ?_⟩
    · have h5 : (fS ++ [(⟨K, l⟩ : S41)])[fS.length] = ⟨K, l⟩ := by simp
      rw [h5, show (fl ++ [(K, v)])[fS.length]? = (fl ++ [(K, v)])[fl.length]? by rw [h.1], List.getElem?_concat_length]
    · simpa using hv
theorem C41_of {W : World} {A : Option Addr} {n : Nat} {fl : List (Int × Value)} {fS : List S41} (h : Kd.C kraw W A n fl) (hl : fl.length = fS.length) (hv : ∀ (i : Nat) (hi : i < fS.length), ∃ v, fl[i]? = some ((fS[i]).f0, v) ∧ ∃ A' c', v = .slice A' (fS[i]).f1.length c' ∧ (fS[i]).f1.length ≤ c' ∧ Kd.C k44 W A' (fS[i]).f1.length (fS[i]).f1) : Kd.C k41 W A n fS := by
  refine ⟨hl ▸ h.1, h.2.1, fun hn => ?_⟩
  obtain ⟨ad, e, hc⟩ := h.2.2 hn
  refine ⟨ad, e, fun j p hp => ?_⟩
  obtain ⟨hj, rfl⟩ := List.getElem?_eq_some_iff.1 hp
  obtain ⟨v, h1, A', c', rfl, h3, h4⟩ := hv j hj
  obtain ⟨c, hc1, hc2, hc3⟩ := hc j _ h1
  exact ⟨c, hc1, by rw [hc2.1]; exact k41_mk W _ h3 h4, hc3⟩
theorem V41_of {W : World} {base b0 : Nat} {ok N : Nat → Prop} {v : Value} {fl : List (Int × Value)} {fS : List S41} (h : Kd.R kraw 41 W base ok v fl) (hf : FV fl fS N W) : Kd.V k41 41 W b0 (fun _ => True) v fS := by
  obtain ⟨A, c, e, hc, _⟩ := Kd.R_reads h
  rw [hf.1] at e hc
  refine ⟨A, c, e, hc, fun W' hW => ?_⟩
  have hR := Kd.R_step (w1 := W') h (fun k _ hk => hW k trivial hk)
  obtain ⟨A2, c2, e2, _, h2⟩ := Kd.R_reads hR
  rw [e] at e2
  injection e2 with e2 e3 e4
  subst e2
  rw [hf.1] at h2
  refine C41_of h2 hf.1 (fun i hi => ?_)
  obtain ⟨u, h3, h4⟩ := hf.2 i hi
  obtain ⟨A3, c3, rfl, h5, h6⟩ := Kd.V_step (w1 := W') h4 (fun k _ hk => hW k trivial hk)
  exact ⟨_, h3, A3, c3, rfl, h5, Kd.F_now h6⟩
theorem R41_of {W : World} {base : Nat} {ok : Nat → Prop} {v : Value} {fl : List (Int × Value)} {fS : List S41} (h : Kd.R kraw 41 W base ok v fl) (hl : fl.length = fS.length) (hf : ∀ (i : Nat) (hi : i < fS.length), ∃ u, fl[i]? = some ((fS[i]).f0, u) ∧ Kd.R k44 44 W base ok u (fS[i]).f1) : Kd.R k41 41 W base ok v fS := by
  obtain ⟨h0, inner, ho, hr⟩ := h
  refine ⟨h0, inner, hl ▸ ho, hl ▸ hr.1, fun j p hp => ?_⟩
  obtain ⟨hj, rfl⟩ := List.getElem?_eq_some_iff.1 hp
  obtain ⟨u, h1, h2⟩ := hf j hj
  have h3 : ((inner.drop (j * k41.sz)).take k41.sz) = [.int .i64 (fS[j]).f0, u] := (hr.2 j _ h1).1
  rw [h3]
  refine k41_mkM W base _ _ (Kd.R_mono (Kd.R_bound h2) (fun k hk => ⟨hk.1, fun e => ?_⟩))
  obtain ⟨_, _, _, q, hq, cells, hcell⟩ := hk
  obtain ⟨cells2, hc2⟩ := own_typed ho k e.symm
  rw [hcell] at hc2
  injection hc2 with hc2
  injection hc2 with _ hc2
  subst hc2
  simp [k44, Kd.iso, Kd.pair, Kd.int, Kd.scalar] at hq
/-! ### what stays, by names (so that no walk's simp opens it) -/
def PA (P Q : (Nat → Prop) → World → Prop) : (Nat → Prop) → World → Prop := fun N W => P N W ∧ Q N W
def PO (P Q : (Nat → Prop) → World → Prop) : (Nat → Prop) → World → Prop := fun N W => P N W ∨ Q N W
def PV {α : Type} (d : Kd α) (e : Nat) (v : Value) (xs : List α) : (Nat → Prop) → World → Prop := fun N W => Kd.V d e W 0 (fun b => ¬ N b) v xs
def PR {α : Type} (d : Kd α) (e base : Nat) (v : Value) (xs : List α) : (Nat → Prop) → World → Prop := fun N W => Kd.R d e W base (fun b => ¬ N b) v xs
def Same (v v' : Value) (f f' : S41) : Prop := v = v' ∧ f = f'
def PS (v v' : Value) (f f' : S41) : (Nat → Prop) → World → Prop := fun _ _ => Same v v' f f'
theorem gPA {P Q : (Nat → Prop) → World → Prop} (hP : Good P) (hQ : Good Q) : Good (PA P Q) := hP.and hQ
theorem gPO {P Q : (Nat → Prop) → World → Prop} (hP : Good P) (hQ : Good Q) : Good (PO P Q) := hP.or hQ
theorem gPV {α : Type} {d : Kd α} {e : Nat} {v : Value} {xs : List α} : Good (PV d e v xs) := good_V d e 0 v xs
theorem gPR {α : Type} {d : Kd α} {e base : Nat} {v : Value} {xs : List α} : Good (PR d e base v xs) := good_R d e base v xs
theorem gPS {v v' : Value} {f f' : S41} : Good (PS v v' f f') := good_const _
def TB (g : Nat) (o : Obj) : (Nat → Prop) → World → Prop := fun _ W => W.heap[g]? = some o
def TA (T U : (Nat → Prop) → World → Prop) : (Nat → Prop) → World → Prop := fun RB W => T RB W ∧ U RB W
def TI (p : Prop) (T : (Nat → Prop) → World → Prop) : (Nat → Prop) → World → Prop := fun RB W => p → T RB W
def TR {α : Type} (d : Kd α) (e base : Nat) (v : Value) (xs : List α) : (Nat → Prop) → World → Prop := fun RB W => Kd.R d e W base RB v xs
theorem tTB {M : Nat → Prop} {g : Nat} {o : Obj} (hg : M g) : Ts M (TB g o) := ts_blk M g o hg
theorem tTA {M : Nat → Prop} {T U : (Nat → Prop) → World → Prop} (h : Ts M T) (k : Ts M U) : Ts M (TA T U) := ts_and h k
theorem tTI {M : Nat → Prop} {p : Prop} {T : (Nat → Prop) → World → Prop} (h : Ts M T) : Ts M (TI p T) := ts_imp h
theorem tTR {α : Type} {M : Nat → Prop} {d : Kd α} {e base : Nat} {v : Value} {xs : List α} : Ts M (TR d e base v xs) := ts_R M d e base v xs
/-- The work's own block, and its forms'. -/
def TWk (gW gV n : Nat) (Av : Option Addr) (cv : Nat) (pv : Value) (err : Int) (cs : Array Value) : (Nat → Prop) → World → Prop := TA (TB gW (.cells #[.slice Av n cv, pv, .int .i64 err] 86 (0, 0))) (TI (0 < n) (TB gV (.cells cs 41 (0, 0))))
def euclid_over.l0 (xs : List S41) : List S44 → List S41 → List Int → Option (List S41 × List Int)
  | [], f, b => some (f, b)
  | m :: l, f, b => if 0 ≤ m.f0 then (if m.f0 < (xs.length : Int) then euclid_over.l0 xs l (f ++ [rd_T41 xs m.f0]) (b ++ [m.f1]) else none) else none
/-- An equation, by parameters: the form, and the error. -/
def euclid_over.f (k : Nat) (xs : List S41) (err K : Int) (l : List S44) : Option (S41 × Int) :=
  if l.length ≤ 1000000 then (euclid_over.l0 xs l [⟨K, []⟩] [1]).bind fun s => (lin_Sum.f k s.1 s.2).bind fun r => some (⟨r.1, r.2.1⟩, if r.2.2 = 0 then err else r.2.2) else none
def euclid_clear.l0 (k : Nat) (err : Int) : List S96 → S41 → S88 → Option (S41 × S88 × Int)
  | [], f, r => some (f, r, err)
  | p :: ps, f, r => (lin_By.f k f.f0 f.f1 p.f0).bind fun c => if c = 0 then euclid_clear.l0 k err ps f r else (num_Div.f p.f2 p.f1).bind fun d => (num_Neg.f d.1).bind fun m => if (d.2 && m.2) = true then ((lin_Put.f k f.f0 f.f1 p.f0 m.1 []).bind fun q => if q.2.2 = 0 then ((euclid_row_less.f k r.f0 r.f1 r.f2 p.f3.f0 p.f3.f1 p.f3.f2 c p.f1).bind fun s => euclid_clear.l0 k err ps ⟨q.1, q.2.1⟩ ⟨s.1, s.2.1, s.2.2⟩) else some (f, r, q.2.2)) else some (f, r, 5)
/-- An equation without the fixed parameters, its row, and the error. -/
def euclid_clear.f (k : Nat) (ps : List S96) (err : Int) (f : S41) (r : S88) : Option (S41 × S88 × Int) := if ps.length ≤ 1000000 then euclid_clear.l0 k err ps f r else none
/-! ### (*euclid.work).put: the literal that puts a form for a parameter -/
set_option maxHeartbeats 4000000 in
set_option maxRecDepth 100000 in
theorem euclid_swap.calls (k : Nat) (gp gt gw gW : Nat) (a0 : Int) (A0 : Option Addr) (c0 : Nat) (l0 : List S44) (p t0 : Int) (At : Option Addr) (ct : Nat) (t1 : List S44) (vv pv : Value) (err : Int) (r1 : Int) (r2 : List S44) (r3 : Int) (w : World)
    (hp : w.heap[gp]? = some (.cells #[.int .i64 p] 3 (0, 0))) (ht : w.heap[gt]? = some (.cells #[.int .i64 t0, .slice At t1.length ct] 41 (0, 0))) (hw : w.heap[gw]? = some (.cells #[.pointer (some ⟨gW, 0, none⟩)] 83 (0, 0)))
    (np : gp ≠ gW) (nt : gt ≠ gW) (nw : gw ≠ gW)
    (hW : w.heap[gW]? = some (.cells #[vv, pv, .int .i64 err] 86 (0, 0)))
    (hl : Kd.V k44 44 w 0 (fun b => ¬ b = gW) (.slice A0 l0.length c0) l0) (hq : Kd.V k44 44 w 0 (fun b => ¬ b = gW) (.slice At t1.length ct) t1)
    (h : lin_Put.f k a0 l0 p t0 t1 = some (r1, r2, r3)) :
    Calls Try.prog 74 #[.agg #[.int .i64 a0, .slice A0 l0.length c0], .pointer (some ⟨gp, 0, none⟩), .pointer (some ⟨gt, 0, none⟩), .pointer (some ⟨gw, 0, none⟩)] w fun e w' => ∃ v, e = .returned (.agg #[.int .i64 r1, v]) ∧ Kd.R k44 44 w' w.heap.size (fun b => w.heap.size ≤ b) v r2 ∧ Fs (fun b => b = gW) w w' ∧ w'.heap[gW]? = some (.cells #[vv, pv, .int .i64 (if r3 = 0 then err else r3)] 86 (0, 0)) := by
  have hu41 := Try.underlying41
  have hu86 := Try.underlying86
  have H := Aside0.mk h
  have CX := Aside0.mk (Cx.start (w := w) (S := fun b => b = gW) (M := fun b => b = gW) (T := fun _ W => W.heap[gW]? = some (.cells #[vv, pv, .int .i64 err] 86 (0, 0)))
    (P := fun N W => ((W.heap[gp]? = some (.cells #[.int .i64 p] 3 (0, 0)) ∧ ¬ N gp) ∧ (W.heap[gt]? = some (.cells #[.int .i64 t0, .slice At t1.length ct] 41 (0, 0)) ∧ ¬ N gt) ∧ (W.heap[gw]? = some (.cells #[.pointer (some ⟨gW, 0, none⟩)] 83 (0, 0)) ∧ ¬ N gw)) ∧ Kd.V k44 44 W 0 (fun b => ¬ N b) (.slice A0 l0.length c0) l0 ∧ Kd.V k44 44 W 0 (fun b => ¬ N b) (.slice At t1.length ct) t1)
    (by rintro b rfl; exact blk_lt hW) hW (ts_blk _ _ _ rfl) ⟨⟨⟨hp, np⟩, ⟨ht, nt⟩, ⟨hw, nw⟩⟩, hl, hq⟩ (((good_blk _ _).and ((good_blk _ _).and (good_blk _ _))).and ((good_V _ _ _ _ _).and (good_V _ _ _ _ _))))
  clear h hp ht hw hW hl hq
  go_enter Try.func74, Try.ntmps74
  by_cases hz : r3 = 0
  · have hz1 : (r3 != 0) = false := by rw [hz]; rfl
    go_wp2_with (first
      | ((with_reducible refine gate_dst (N := 4) rfl ?_); refine boxA CX 41 #[.int .i64 a0, .slice A0 l0.length c0] ?_; clear CX; intro g4 w1 CX)
      | ((with_reducible refine gate_dst (N := 5) rfl ?_); refine boxA CX 41 #[.int .i64 0, .slice none 0 0] ?_; clear CX; intro g5 w2 CX; have hc_g4_0 := ze0 (CX.out.blk 1 rfl); have hc_g4_1 := ze1 (CX.out.blk 1 rfl); have hx_p : w2.cell? ⟨gp, 0, none⟩ = some (.int .i64 p) := (blk_cell CX.out.p.1.1.1 0).trans rfl; have hx_t0 : w2.cell? ⟨gt, 0, none⟩ = some (.int .i64 t0) := (blk_cell CX.out.p.1.2.1.1 0).trans rfl; have hx_t1 : w2.cell? ⟨gt, 1, none⟩ = some (.slice At t1.length ct) := (blk_cell CX.out.p.1.2.1.1 1).trans rfl)
      | ((go_at_call 60); refine (lin_Put.calls k a0 _ A0 c0 l0 p t0 _ At ct t1 r1 r2 r3 w2 CX.out.p.2.1 CX.out.p.2.2 H.out).mono ?_; rintro e w3 ⟨v, rfl, hr, hb⟩; have HR := Aside0.mk (CX.out.fresh hb.size hr); skip; replace CX := Aside0.mk (CX.out.call hb); obtain ⟨Av, cv, ev⟩ := Kd.R_slice HR.out; subst ev; replace CX := Aside0.mk (CX.out.withP (P' := fun N W => (W.heap[gw]? = some (.cells #[.pointer (some ⟨gW, 0, none⟩)] 83 (0, 0)) ∧ ¬ N gw) ∧ Kd.R k44 44 W w.heap.size (fun b => ¬ N b) (.slice Av r2.length cv) r2) ⟨CX.out.p.1.2.2, HR.out⟩ ((good_blk _ _).and (good_R _ _ _ _ _))); clear hr hb HR; clear hc_g4_0 hc_g4_1 hx_p hx_t0 hx_t1)
      | ((with_reducible refine gate_dst (N := 6) rfl ?_); refine boxA CX 41 #[.int .i64 0, .slice none 0 0] ?_; clear CX; intro g6 w4 CX)
      | ((with_reducible refine gate_store (t := 41) (p := 6) rfl ?_); refine storeW CX (Cx.wh0n2) (st41 (CX.out.blk 0 rfl)) ?_; clear CX; intro w5 CX; have hc_g6_0 := ze0 (CX.out.blk 0 rfl); have hc_g6_1 := ze1 (CX.out.blk 0 rfl); have hx_w : w5.cell? ⟨gw, 0, none⟩ = some (.pointer (some ⟨gW, 0, none⟩)) := (blk_cell CX.out.p.1.1 0).trans rfl)
      | ((with_reducible refine gate_store (t := 41) (p := 5) rfl ?_); refine storeW CX (Cx.wh1n2) (st41 (CX.out.blk 1 rfl)) ?_; clear CX; intro w6 CX; clear hc_g6_0 hc_g6_1 hx_w))
    refine bodyPost_ret (v := .agg #[.int .i64 r1, .slice Av r2.length cv]) ?hres ?hdef ?_; (case hdef => rfl); (case hres => exact results_single rfl (Vals.cell g5 41 #[.int .i64 r1, .slice Av r2.length cv] (0, 0) _ rfl (CX.out.blk 1 rfl) Try.underlying41 rfl (by kernel_rfl) .nil))
    refine ⟨_, rfl, ?_, CX.out.fs, ?_⟩
    · exact Kd.R_mono (Kd.R_bound CX.out.p.2) (fun _ hk => hk.2.1)
    · first | exact CX.out.t | (rw [if_pos hz]; exact CX.out.t) | (rw [if_neg hz]; exact CX.out.t)
  · have hz1 : (r3 != 0) = true := bne_iff_ne.mpr hz
    go_wp2_with (first
      | ((with_reducible refine gate_dst (N := 4) rfl ?_); refine boxA CX 41 #[.int .i64 a0, .slice A0 l0.length c0] ?_; clear CX; intro g4 w1 CX)
      | ((with_reducible refine gate_dst (N := 5) rfl ?_); refine boxA CX 41 #[.int .i64 0, .slice none 0 0] ?_; clear CX; intro g5 w2 CX; have hc_g4_0 := ze0 (CX.out.blk 1 rfl); have hc_g4_1 := ze1 (CX.out.blk 1 rfl); have hx_p : w2.cell? ⟨gp, 0, none⟩ = some (.int .i64 p) := (blk_cell CX.out.p.1.1.1 0).trans rfl; have hx_t0 : w2.cell? ⟨gt, 0, none⟩ = some (.int .i64 t0) := (blk_cell CX.out.p.1.2.1.1 0).trans rfl; have hx_t1 : w2.cell? ⟨gt, 1, none⟩ = some (.slice At t1.length ct) := (blk_cell CX.out.p.1.2.1.1 1).trans rfl)
      | ((go_at_call 60); refine (lin_Put.calls k a0 _ A0 c0 l0 p t0 _ At ct t1 r1 r2 r3 w2 CX.out.p.2.1 CX.out.p.2.2 H.out).mono ?_; rintro e w3 ⟨v, rfl, hr, hb⟩; have HR := Aside0.mk (CX.out.fresh hb.size hr); skip; replace CX := Aside0.mk (CX.out.call hb); obtain ⟨Av, cv, ev⟩ := Kd.R_slice HR.out; subst ev; replace CX := Aside0.mk (CX.out.withP (P' := fun N W => (W.heap[gw]? = some (.cells #[.pointer (some ⟨gW, 0, none⟩)] 83 (0, 0)) ∧ ¬ N gw) ∧ Kd.R k44 44 W w.heap.size (fun b => ¬ N b) (.slice Av r2.length cv) r2) ⟨CX.out.p.1.2.2, HR.out⟩ ((good_blk _ _).and (good_R _ _ _ _ _))); clear hr hb HR; clear hc_g4_0 hc_g4_1 hx_p hx_t0 hx_t1)
      | ((with_reducible refine gate_dst (N := 6) rfl ?_); refine boxA CX 41 #[.int .i64 0, .slice none 0 0] ?_; clear CX; intro g6 w4 CX)
      | ((with_reducible refine gate_store (t := 41) (p := 6) rfl ?_); refine storeW CX (Cx.wh0n2) (st41 (CX.out.blk 0 rfl)) ?_; clear CX; intro w5 CX; have hc_g6_0 := ze0 (CX.out.blk 0 rfl); have hc_g6_1 := ze1 (CX.out.blk 0 rfl); have hx_w : w5.cell? ⟨gw, 0, none⟩ = some (.pointer (some ⟨gW, 0, none⟩)) := (blk_cell CX.out.p.1.1 0).trans rfl)
      | ((with_reducible refine gate_store (t := 26) (p := 20) rfl ?_); have hq_0 : w5.cell? ⟨gW, 2, none⟩ = some (.int .i64 (err)) := (blk_cell CX.out.t 2).trans rfl; have hz_0 : w5.frozen? ⟨gW, 2, none⟩ = false := blk_frozen CX.out.t 2; refine store_event (t := 26) (p := 20) (v := ?vo_1) (w1 := (w5.setCell ⟨gW, 2, none⟩ (.int .i64 (r3)))) ?hg ?ho ?hn ?hr ?_; (case ho => rfl); (case hg => rfl); (case hn => rfl); (case hr => first | (go_simp; done) | (go_simp; rfl)); intro w6 hw; replace CX := Aside0.mk (CX.out.turn (Fs.set _ gW 2 (.int .i64 r3)) (fun _ h => h) (fun _ h _ => h) (T' := fun _ W => W.heap[gW]? = some (.cells #[vv, pv, .int .i64 r3] 86 (0, 0))) (blk_put CX.out.t 2 _ rfl) (ts_blk _ _ _ rfl)); rw [← hw] at CX; clear hw hq_0 hz_0; clear hc_g6_0 hc_g6_1 hx_w; have hc_g6_0 := ze0 (CX.out.blk 0 rfl); have hc_g6_1 := ze1 (CX.out.blk 0 rfl))
      | ((with_reducible refine gate_store (t := 41) (p := 5) rfl ?_); refine storeW CX (Cx.wh1n2) (st41 (CX.out.blk 1 rfl)) ?_; clear CX; intro w7 CX; clear hc_g6_0 hc_g6_1))
    refine bodyPost_ret (v := .agg #[.int .i64 r1, .slice Av r2.length cv]) ?hres ?hdef ?_; (case hdef => rfl); (case hres => exact results_single rfl (Vals.cell g5 41 #[.int .i64 r1, .slice Av r2.length cv] (0, 0) _ rfl (CX.out.blk 1 rfl) Try.underlying41 rfl (by kernel_rfl) .nil))
    refine ⟨_, rfl, ?_, CX.out.fs, ?_⟩
    · exact Kd.R_mono (Kd.R_bound CX.out.p.2) (fun _ hk => hk.2.1)
    · first | exact CX.out.t | (rw [if_pos hz]; exact CX.out.t) | (rw [if_neg hz]; exact CX.out.t)

end Go.Proofs.Ytjinmlpekecmbaa.PEuclidNone
