/- What the call of each function that the law reaches comes to, and the law out of its plain form; no condition but what stands in each theorem. -/
import Derived.Test.YtjinmlpekecmbaaPEuclidNonex0
import Derived.Test.YtjinmlpekecmbaaPEuclidNonex1
namespace Go.Proofs.Ytjinmlpekecmbaa.PEuclidNone
open Go.RowKit Go.Proofs.YtjinmlpekecmbaaW.PrintWords Go.Proofs.YtjinmlpekecmbaaW.PrintLast Go.Proofs.YtjinmlpekecmbaaW.PrintMore
open Go.Proofs.YtjinmlpekecmbaaW.PrintWords renaming blk_drewN → zN, blk_drew → zD, below_alloc → yA, pw_below_drewN → yN, below_drew1 → yD, below_set → yS, gate_callee → zC
open Go.Proofs.YtjinmlpekecmbaaW.PrintWords.Aside0 renaming mk → zK
attribute [local go_sem] max2_int min2_int max_two min_two max_three min_three max_four min_four
set_option linter.unusedVariables false
set_option maxHeartbeats 8000000
set_option maxRecDepth 100000
set_option linter.unusedSimpArgs false

/-- A state of type 69 at block g of W; what its slices lead to came in by w0. -/
def IsS69 (w0 W : World) (g : Nat) (f0 : Int) (f1 : Int) (f2 : Int) : Prop := W.heap[g]? = some (.cells #[.int .u64 f0, .int .u64 f1, .int .u64 f2] 69 (0, 0)) ∧ w0.heap.size ≤ g
theorem IsS69.grown {w0 W : World} {g : Nat} {f0 : Int} {f1 : Int} {f2 : Int} {W1 : World} {row : Option Nat} (h : IsS69 w0 W g f0 f1 f2) (hw : W.grownBy W1 row) (hne : some g ≠ row) : IsS69 w0 W1 g f0 f1 f2 := by
 obtain ⟨hb, hg⟩ := h
 exact ⟨blk_grown hb hw hne, hg⟩
theorem IsS69.own_neN {w0 W : World} {g : Nat} {f0 : Int} {f1 : Int} {f2 : Int} {α : Type} {d : Kd α} {e : Nat} {base : Nat} {ok : Nat → Prop} {v : Value} {xs : List α} (h : IsS69 w0 W g f0 f1 f2) (ho : Kd.N d e W base ok v xs) (ht : e ≠ 69) : some g ≠ v.ownBlock := by
 obtain ⟨hb, hg⟩ := h
 exact Kd.N_ne ho hb ht
theorem IsS69.fresh {w0 W : World} {g : Nat} {f0 : Int} {f1 : Int} {f2 : Int} (h : IsS69 w0 W g f0 f1 f2) : ∀ k, W.heap.size ≤ k → k ≠ g := by
 obtain ⟨hb, hg⟩ := h
 exact Kd.freshB hb
theorem IsS69.kept {w0 W : World} {g : Nat} {f0 : Int} {f1 : Int} {f2 : Int} {W1 : World} {S : Nat → Prop} (h : IsS69 w0 W g f0 f1 f2) (hk : Kept W W1 S) (hne : ¬ S g) : IsS69 w0 W1 g f0 f1 f2 := by
 obtain ⟨hb, hg⟩ := h
 exact ⟨blk_kept hb hk hne, hg⟩
theorem IsS69.below {w0 W : World} {g : Nat} {f0 : Int} {f1 : Int} {f2 : Int} {W1 : World} (h : IsS69 w0 W g f0 f1 f2) (hw : Below W.heap.size W W1) : IsS69 w0 W1 g f0 f1 f2 := h.grown (grown_of_below hw none) (by simp)
theorem IsS69.alloc {w0 W : World} {g : Nat} {f0 : Int} {f1 : Int} {f2 : Int} (h : IsS69 w0 W g f0 f1 f2) (o : Obj) : IsS69 w0 (W.alloc o) g f0 f1 f2 := h.below (yA (Below.refl _ _) o)
theorem IsS69.drewN {w0 W : World} {g : Nat} {f0 : Int} {f1 : Int} {f2 : Int} (h : IsS69 w0 W g f0 f1 f2) (m : Nat) : IsS69 w0 (W.drewN m) g f0 f1 f2 := h
theorem IsS69.drew {w0 W : World} {g : Nat} {f0 : Int} {f1 : Int} {f2 : Int} (h : IsS69 w0 W g f0 f1 f2) : IsS69 w0 W.drew g f0 f1 f2 := h
theorem IsS69.at_ {w0 W : World} {g : Nat} {f0 : Int} {f1 : Int} {f2 : Int} {w' : World} {m : Nat} (hq : W.drewN m = w') (h : IsS69 w0 W g f0 f1 f2) : IsS69 w0 w' g f0 f1 f2 := by subst hq; exact IsS69.drewN h m
theorem IsS69.apart {w0 W : World} {g : Nat} {f0 : Int} {f1 : Int} {f2 : Int} {α : Type} {d : Kd α} {e : Nat} {base : Nat} {ok : Nat → Prop} {v : Value} {xs : List α} (h : IsS69 w0 W g f0 f1 f2) (ho : d.R e W base ok v xs) (ht : ∀ q, q ∈ e :: d.E → q ≠ 69) : d.R e W base (fun k => ok k ∧ k ≠ g) v xs := by
 obtain ⟨hb, hg⟩ := h
 exact Kd.R_types ho hb ht
theorem IsS69.own_ne {w0 W : World} {g : Nat} {f0 : Int} {f1 : Int} {f2 : Int} {α : Type} {d : Kd α} {e : Nat} {base : Nat} {ok : Nat → Prop} {v : Value} {xs : List α} (h : IsS69 w0 W g f0 f1 f2) (ho : d.R e W base ok v xs) (ht : e ≠ 69) : some g ≠ v.ownBlock := by
 obtain ⟨hb, hg⟩ := h
 exact Kd.R_ne ho hb ht
theorem IsS69.apartQ {w0 W : World} {g : Nat} {f0 : Int} {f1 : Int} {f2 : Int} {α : Type} {d : Kd α} {e : Nat} {base : Nat} {ok : Nat → Prop} {v : Value} {xs : List α} (h : IsS69 w0 W g f0 f1 f2) (ho : d.Q e W base ok v xs) (ht : ∀ q, q ∈ e :: d.E → q ≠ 69) : d.Q e W base (fun k => ok k ∧ k ≠ g) v xs := by
 obtain ⟨hb, hg⟩ := h
 exact Kd.Q_types ho hb ht
theorem IsS69.own_neQ {w0 W : World} {g : Nat} {f0 : Int} {f1 : Int} {f2 : Int} {α : Type} {d : Kd α} {e : Nat} {base : Nat} {ok : Nat → Prop} {v : Value} {xs : List α} (h : IsS69 w0 W g f0 f1 f2) (ho : d.Q e W base ok v xs) (ht : e ≠ 69) : some g ≠ v.ownBlock := by
 obtain ⟨hb, hg⟩ := h
 exact Kd.Q_ne ho hb ht
theorem IsS69.apartS {w0 W : World} {g : Nat} {f0 : Int} {f1 : Int} {f2 : Int} {α : Type} {d : Kd α} {e : Nat} {base : Nat} {ok : Nat → Prop} {v : Value} {xs : List α} (h : IsS69 w0 W g f0 f1 f2) (ho : d.S e W base ok v xs) (ht : ∀ q, q ∈ e :: d.E → q ≠ 69) : d.S e W base (fun k => ok k ∧ k ≠ g) v xs := by
 obtain ⟨hb, hg⟩ := h
 exact Kd.S_types ho hb ht
theorem IsS69.own_neS {w0 W : World} {g : Nat} {f0 : Int} {f1 : Int} {f2 : Int} {α : Type} {d : Kd α} {e : Nat} {base : Nat} {ok : Nat → Prop} {v : Value} {xs : List α} (h : IsS69 w0 W g f0 f1 f2) (ho : d.S e W base ok v xs) (ht : e ≠ 69) : some g ≠ v.ownBlock := by
 obtain ⟨hb, hg⟩ := h
 exact Kd.S_ne ho hb ht
theorem IsS69.lt {w0 W : World} {g : Nat} {f0 : Int} {f1 : Int} {f2 : Int} (h : IsS69 w0 W g f0 f1 f2) : g < W.heap.size := by
 obtain ⟨hb, hg⟩ := h
 exact blk_lt hb
theorem IsS69.ge {w0 W : World} {g : Nat} {f0 : Int} {f1 : Int} {f2 : Int} (h : IsS69 w0 W g f0 f1 f2) : w0.heap.size ≤ g := by
 obtain ⟨hb, hg⟩ := h
 exact hg
theorem IsS69.ne_blk {w0 W : World} {g : Nat} {f0 : Int} {f1 : Int} {f2 : Int} {a : Nat} {cs : Array Value} {t : TypeId} {fr : Nat × Nat} (h : IsS69 w0 W g f0 f1 f2) (hb2 : W.heap[a]? = some (.cells cs t fr)) (ht : t ≠ 69) : g ≠ a := by
 obtain ⟨hb, hg⟩ := h
 rintro rfl
 rw [hb] at hb2
 injection hb2 with hb2
 injection hb2 with _ ht2
 exact ht ht2.symm
theorem IsS69.far {w0 W : World} {g : Nat} {f0 : Int} {f1 : Int} {f2 : Int} {p : Addr} (h : IsS69 w0 W g f0 f1 f2) (hne : g ≠ p.block) (u : Value) : IsS69 w0 (W.setCell p u) g f0 f1 f2 := by
 obtain ⟨hb, hg⟩ := h
 exact ⟨blk_far hb hne u, hg⟩
theorem cellS69_0 {W : World} {g : Nat} {f0 : Int} {f1 : Int} {f2 : Int} (h : W.heap[g]? = some (.cells #[.int .u64 f0, .int .u64 f1, .int .u64 f2] 69 (0, 0))) : W.cell? ⟨g, 0, none⟩ = some (.int .u64 f0) := (blk_cell h 0).trans rfl
theorem IsS69.set_0 {w0 W : World} {g : Nat} {f0 : Int} {f1 : Int} {f2 : Int} (h : IsS69 w0 W g f0 f1 f2) (x : Int) : IsS69 w0 (W.setCell ⟨g, 0, none⟩ (.int .u64 x)) g x f1 f2 := by
 obtain ⟨hb, hg⟩ := h
 exact ⟨by simpa using blk_set hb 0 (.int .u64 x), hg⟩
theorem cellS69_1 {W : World} {g : Nat} {f0 : Int} {f1 : Int} {f2 : Int} (h : W.heap[g]? = some (.cells #[.int .u64 f0, .int .u64 f1, .int .u64 f2] 69 (0, 0))) : W.cell? ⟨g, 1, none⟩ = some (.int .u64 f1) := (blk_cell h 1).trans rfl
theorem IsS69.set_1 {w0 W : World} {g : Nat} {f0 : Int} {f1 : Int} {f2 : Int} (h : IsS69 w0 W g f0 f1 f2) (x : Int) : IsS69 w0 (W.setCell ⟨g, 1, none⟩ (.int .u64 x)) g f0 x f2 := by
 obtain ⟨hb, hg⟩ := h
 exact ⟨by simpa using blk_set hb 1 (.int .u64 x), hg⟩
theorem cellS69_2 {W : World} {g : Nat} {f0 : Int} {f1 : Int} {f2 : Int} (h : W.heap[g]? = some (.cells #[.int .u64 f0, .int .u64 f1, .int .u64 f2] 69 (0, 0))) : W.cell? ⟨g, 2, none⟩ = some (.int .u64 f2) := (blk_cell h 2).trans rfl
theorem IsS69.set_2 {w0 W : World} {g : Nat} {f0 : Int} {f1 : Int} {f2 : Int} (h : IsS69 w0 W g f0 f1 f2) (x : Int) : IsS69 w0 (W.setCell ⟨g, 2, none⟩ (.int .u64 x)) g f0 f1 x := by
 obtain ⟨hb, hg⟩ := h
 exact ⟨by simpa using blk_set hb 2 (.int .u64 x), hg⟩
theorem IsS69.new (w0 W : World) (f0 : Int) (f1 : Int) (f2 : Int) (hB : Below w0.heap.size w0 W) : IsS69 w0 (W.alloc (.cells #[.int .u64 f0, .int .u64 f1, .int .u64 f2] 69)) W.heap.size f0 f1 f2 := ⟨by simpa using heap_alloc_new W _, hB.size⟩

/-! ### exact_Sum_Add: function 33, by hand -/
def exact_Sum_Add.f (s0_0 : Int) (s0_1 : Int) (s0_2 : Int) (a1 : Int) (a2 : Int) : Option (Int × Int × Int) :=
 if -9223372036854775808 ≤ a1 ∧ a1 ≤ 9223372036854775807 ∧ -9223372036854775808 ≤ a2 ∧ a2 ≤ 9223372036854775807 ∧ 0 ≤ s0_0 ∧ s0_0 < 18446744073709551616 ∧ 0 ≤ s0_1 ∧ s0_1 < 18446744073709551616 ∧ 0 ≤ s0_2 ∧ s0_2 < 18446744073709551616 then
  some (limb0 (s0_0 + s0_1 * 18446744073709551616 + s0_2 * 340282366920938463463374607431768211456 + a1 * a2), limb1 (s0_0 + s0_1 * 18446744073709551616 + s0_2 * 340282366920938463463374607431768211456 + a1 * a2), limb2 (s0_0 + s0_1 * 18446744073709551616 + s0_2 * 340282366920938463463374607431768211456 + a1 * a2))
 else none
theorem exact_Sum_Add.calls (g : Nat) (s0_0 : Int) (s0_1 : Int) (s0_2 : Int) (a1 : Int) (a2 : Int) (r1 : Int) (r2 : Int) (r3 : Int) (w0 w : World) (hI : IsS69 w0 w g s0_0 s0_1 s0_2) (hB : Below w0.heap.size w0 w) (h : exact_Sum_Add.f s0_0 s0_1 s0_2 a1 a2 = some (r1, r2, r3)) :
  Calls Try.prog 33 #[.pointer (some ⟨g, 0, none⟩), .int .i64 a1, .int .i64 a2] w fun e w' => e = .returned (.tuple #[]) ∧ IsS69 w0 w' g r1 r2 r3 ∧ Below w0.heap.size w0 w' ∧ KeepBut w w' g none := by
 unfold exact_Sum_Add.f at h
 split at h
 ·rename_i hc
  obtain ⟨c1, c2, c3, c4, c5, c6, c7, c8, c9, c10⟩ := hc
  obtain ⟨hb, hg⟩ := hI
  simp only [Option.some.injEq, Prod.mk.injEq] at h
  obtain ⟨rfl, rfl, rfl⟩ := h
  have h3 : At3 #[.int .u64 s0_0, .int .u64 s0_1, .int .u64 s0_2] 0 (s0_0 + s0_1 * 18446744073709551616 + s0_2 * 340282366920938463463374607431768211456) := by
   have e0 : limb0 (s0_0 + s0_1 * 18446744073709551616 + s0_2 * 340282366920938463463374607431768211456) = s0_0 := by unfold limb0; omega
   have e1 : limb1 (s0_0 + s0_1 * 18446744073709551616 + s0_2 * 340282366920938463463374607431768211456) = s0_1 := by unfold limb1; omega
   have e2 : limb2 (s0_0 + s0_1 * 18446744073709551616 + s0_2 * 340282366920938463463374607431768211456) = s0_2 := by unfold limb2; omega
   unfold At3
   rw [e0, e1, e2]
   exact ⟨rfl, rfl, rfl⟩
  refine (exact_Add g 0 _ a1 a2 w _ _ c1 c2 c3 c4 hb h3).mono ?_
  rintro e w' ⟨he, hb', hs⟩
  exact ⟨he, ⟨hb', hg⟩, hB.trans (hs.below hg), ⟨Nat.le_of_eq hs.size.symm, fun i _ hi _ => hs.block i hi⟩⟩
 ·cases h

/-! ### exact_Sum_Fits: function 34 -/
def exact_Sum_Fits.f (s0_0 : Int) (s0_1 : Int) (s0_2 : Int) : Option (Int × Bool × Int × Int × Int) := (exact_sign.f s0_0).bind fun t114 => (if s0_1 = t114 then (if s0_2 = t114 then (some (wrap64 (s0_0), true, s0_0, s0_1, s0_2)) else (some (0, false, s0_0, s0_1, s0_2))) else (some (0, false, s0_0, s0_1, s0_2)))
theorem exact_Sum_Fits.calls (g : Nat) (s0_0 : Int) (s0_1 : Int) (s0_2 : Int) (r1 : Int) (r2 : Bool) (r3 : Int) (r4 : Int) (r5 : Int) (w0 w : World) (hI : IsS69 w0 w g s0_0 s0_1 s0_2) (hB : Below w0.heap.size w0 w) (h : exact_Sum_Fits.f s0_0 s0_1 s0_2 = some (r1, r2, r3, r4, r5)) :
  Calls Try.prog 34 #[.pointer (some ⟨g, 0, none⟩)] w fun e w' => e = .returned (.tuple #[.int .i64 r1, .bool r2]) ∧ IsS69 w0 w' g r3 r4 r5 ∧ Below w0.heap.size w0 w' ∧ KeepBut w w' g none := by
 have HI0 := zK hI
 have HK := zK (KeepBut.refl w g none)
 have HL := zK hB.size; clear hI
 have HW0 := zK hB.size
 have HB := zK hB; clear hB
 have H : ((exact_sign.f s0_0).bind fun t114 => (if s0_1 = t114 then (if s0_2 = t114 then (some (wrap64 (s0_0), true, s0_0, s0_1, s0_2)) else (some (0, false, s0_0, s0_1, s0_2))) else (some (0, false, s0_0, s0_1, s0_2)))) = some (r1, r2, r3, r4, r5) := h
 clear h; replace H := zob H
 obtain ⟨t114, A20, H⟩ := H
 replace H : (if s0_1 = t114 then (if s0_2 = t114 then (some (wrap64 (s0_0), true, s0_0, s0_1, s0_2)) else (some (0, false, s0_0, s0_1, s0_2))) else (some (0, false, s0_0, s0_1, s0_2))) = some (r1, r2, r3, r4, r5) := H
 have A2 := zK A20; clear A20
 by_cases c3 : s0_1 = t114
 ·rw [if_pos c3] at H
  have c3b0 : (s0_1 == t114) = true := beq_iff_eq.mpr c3
  have c3b1 : (s0_1 != t114) = false := bne_eq_false_iff_eq.mpr c3; clear c3
  by_cases c4 : s0_2 = t114
  ·rw [if_pos c4] at H
   have c4b0 : (s0_2 == t114) = true := beq_iff_eq.mpr c4
   have c4b1 : (s0_2 != t114) = false := bne_eq_false_iff_eq.mpr c4; clear c4
   simp only [Option.some.injEq, Prod.mk.injEq] at H
   obtain ⟨rfl, rfl, rfl, rfl, rfl⟩ := H
   obtain ⟨HGz5, hgz5⟩ := HI0.out
   have hcz5_0 := cellS69_0 HGz5
   have hcz5_1 := cellS69_1 HGz5
   have hcz5_2 := cellS69_2 HGz5
   have hfz5_0 := blk_frozen HGz5 0
   have hfz5_1 := blk_frozen HGz5 1
   have hfz5_2 := blk_frozen HGz5 2; clear HGz5 hgz5
   go_enter Try.func34, Try.ntmps34
   go_wp2_with (first | ((with_reducible refine zC (f := 51) rfl ?_); refine zGo (some 9) Try.func51 #[.int .u64 s0_0] ?_; (with_reducible refine (exact_sign.calls s0_0 t114 _ A2.out).mono ?_); rintro e w' ⟨rfl, ⟨nd, rfl⟩⟩; refine ⟨_, rfl, ?_⟩))
   go_ret2
   exact zR (h := ⟨by repeat (first | (with_reducible first | exact HI0.out | apply IsS69.alloc | apply IsS69.drewN | apply IsS69.drew | apply IsS69.set_0 | apply IsS69.set_1 | apply IsS69.set_2) | exact HI0.out), by repeat (first | (with_reducible first | exact HB.out | apply yA | apply yN | apply yD | refine yS ?_ (IsS69.ge HI0.out)) | exact HB.out), by repeat (first | (with_reducible first | exact HK.out | apply KeepBut.set_ | apply keep_drewN | apply keep_drew | apply keep_alloc) | exact HK.out)⟩)
  ·rw [if_neg c4] at H
   have c4b0 : (s0_2 == t114) = false := beq_eq_false_iff_ne.mpr c4
   have c4b1 : (s0_2 != t114) = true := bne_iff_ne.mpr c4
   simp only [Option.some.injEq, Prod.mk.injEq] at H
   obtain ⟨rfl, rfl, rfl, rfl, rfl⟩ := H
   obtain ⟨HGz6, hgz6⟩ := HI0.out
   have hcz6_0 := cellS69_0 HGz6
   have hcz6_1 := cellS69_1 HGz6
   have hcz6_2 := cellS69_2 HGz6
   have hfz6_0 := blk_frozen HGz6 0
   have hfz6_1 := blk_frozen HGz6 1
   have hfz6_2 := blk_frozen HGz6 2; clear HGz6 hgz6
   go_enter Try.func34, Try.ntmps34
   go_wp2_with (first | ((with_reducible refine zC (f := 51) rfl ?_); refine zGo (some 9) Try.func51 #[.int .u64 s0_0] ?_; (with_reducible refine (exact_sign.calls s0_0 t114 _ A2.out).mono ?_); rintro e w' ⟨rfl, ⟨nd, rfl⟩⟩; refine ⟨_, rfl, ?_⟩))
   go_ret2
   exact zR (h := ⟨by repeat (first | (with_reducible first | exact HI0.out | apply IsS69.alloc | apply IsS69.drewN | apply IsS69.drew | apply IsS69.set_0 | apply IsS69.set_1 | apply IsS69.set_2) | exact HI0.out), by repeat (first | (with_reducible first | exact HB.out | apply yA | apply yN | apply yD | refine yS ?_ (IsS69.ge HI0.out)) | exact HB.out), by repeat (first | (with_reducible first | exact HK.out | apply KeepBut.set_ | apply keep_drewN | apply keep_drew | apply keep_alloc) | exact HK.out)⟩)
 ·rw [if_neg c3] at H
  have c3b0 : (s0_1 == t114) = false := beq_eq_false_iff_ne.mpr c3
  have c3b1 : (s0_1 != t114) = true := bne_iff_ne.mpr c3
  simp only [Option.some.injEq, Prod.mk.injEq] at H
  obtain ⟨rfl, rfl, rfl, rfl, rfl⟩ := H
  obtain ⟨HGz7, hgz7⟩ := HI0.out
  have hcz7_0 := cellS69_0 HGz7
  have hcz7_1 := cellS69_1 HGz7
  have hcz7_2 := cellS69_2 HGz7
  have hfz7_0 := blk_frozen HGz7 0
  have hfz7_1 := blk_frozen HGz7 1
  have hfz7_2 := blk_frozen HGz7 2; clear HGz7 hgz7
  go_enter Try.func34, Try.ntmps34
  go_wp2_with (first | ((with_reducible refine zC (f := 51) rfl ?_); refine zGo (some 9) Try.func51 #[.int .u64 s0_0] ?_; (with_reducible refine (exact_sign.calls s0_0 t114 _ A2.out).mono ?_); rintro e w' ⟨rfl, ⟨nd, rfl⟩⟩; refine ⟨_, rfl, ?_⟩))
  go_ret2
  exact zR (h := ⟨by repeat (first | (with_reducible first | exact HI0.out | apply IsS69.alloc | apply IsS69.drewN | apply IsS69.drew | apply IsS69.set_0 | apply IsS69.set_1 | apply IsS69.set_2) | exact HI0.out), by repeat (first | (with_reducible first | exact HB.out | apply yA | apply yN | apply yD | refine yS ?_ (IsS69.ge HI0.out)) | exact HB.out), by repeat (first | (with_reducible first | exact HK.out | apply KeepBut.set_ | apply keep_drewN | apply keep_drew | apply keep_alloc) | exact HK.out)⟩)

/-! ### sequitur/lin.sum: what it comes to -/
def addM (by_ : Int) (acc : List Int) (m : S44) : List Int := acc.set m.f0.toNat (acc.getD m.f0.toNat 0 + m.f1 * by_)
def addF (acc : List Int) (x : S75) : List Int := x.f0.f1.foldl (addM x.f1) acc
def accs (l : List S75) : List Int := l.foldl addF (List.replicate 64 0)
def ksum (l : List S75) : Int := l.foldl (fun s x => s + x.f0.f0 * x.f1) 0
def in64 (n : Int) : Bool := decide (-9223372036854775808 ≤ n) && decide (n ≤ 9223372036854775807)
def goodM (m : S44) : Bool := decide (0 ≤ m.f0) && decide (m.f0 < 64) && in64 m.f1
def goodF (x : S75) : Bool := in64 x.f0.f0 && in64 x.f1 && x.f0.f1.all goodM
def sumOut (acc : List Int) (v : Nat) : List S44 := (List.range v).filterMap fun i => if (fit192 (acc.getD i 0)).1 = 0 then none else some ⟨(i : Int), (fit192 (acc.getD i 0)).1⟩
def sumOk (acc : List Int) (b : Bool) (v : Nat) : Bool := b && (List.range v).all fun i => (fit192 (acc.getD i 0)).2
def lin_sum.f (l0 : List S75) : Option (Int × List S44 × Int) :=
 if l0.all goodF = true then some (if sumOk (accs l0) (fit192 (ksum l0)).2 64 = true then ((fit192 (ksum l0)).1, sumOut (accs l0) 64, 0) else (0, [], 5)) else none

theorem in64_iff {n : Int} (h : in64 n = true) : -9223372036854775808 ≤ n ∧ n ≤ 9223372036854775807 := by
 simpa [in64] using h
theorem addM_length (b : Int) (acc : List Int) (m : S44) : (addM b acc m).length = acc.length := by simp [addM]
theorem foldM_length (b : Int) (l : List S44) : ∀ acc : List Int, (l.foldl (addM b) acc).length = acc.length := by
 induction l with
 | nil => intro acc; rfl
 | cons m l ih => intro acc; rw [List.foldl_cons, ih, addM_length]
theorem addF_length (acc : List Int) (x : S75) : (addF acc x).length = acc.length := foldM_length _ _ _
theorem foldF_length (l : List S75) : ∀ acc : List Int, (l.foldl addF acc).length = acc.length := by
 induction l with
 | nil => intro acc; rfl
 | cons m l ih => intro acc; rw [List.foldl_cons, ih, addF_length]

/-! a block of numbers of 192 bits -/
def cells3 (s : Int) : List Value := [.int .u64 (limb0 s), .int .u64 (limb1 s), .int .u64 (limb2 s)]
def accCells (acc : List Int) : Array Value := (acc.flatMap cells3).toArray
theorem cells3_length (s : Int) : (cells3 s).length = 3 := rfl
theorem accCells_get (acc : List Int) : ∀ (v : Nat), v < acc.length → ∀ j, j < 3 → (acc.flatMap cells3)[3 * v + j]? = (cells3 (acc.getD v 0))[j]? := by
 induction acc with
 | nil => intro v hv; simp at hv
 | cons s acc ih =>
  intro v hv j hj
  rw [List.flatMap_cons]
  cases v with
  | zero => rw [List.getElem?_append_left (by rw [cells3_length]; omega)]; simp
  | succ v =>
   rw [List.getElem?_append_right (by rw [cells3_length]; omega), cells3_length, show 3 * (v + 1) + j - 3 = 3 * v + j by omega, ih v (by simpa using hv) j hj]
   simp
theorem accCells_at (acc : List Int) (v : Nat) (hv : v < acc.length) : At3 (accCells acc) (3 * v) (acc.getD v 0) := by
 have h := accCells_get acc v hv
 unfold At3 accCells
 simp only [List.getElem?_toArray]
 refine ⟨?_, ?_, ?_⟩
 ·have := h 0 (by omega); rw [Nat.add_zero] at this; rw [this]; rfl
 ·rw [h 1 (by omega)]; rfl
 ·rw [h 2 (by omega)]; rfl
theorem accCells_set (acc : List Int) : ∀ (v : Nat) (s : Int), v < acc.length →
  (((acc.flatMap cells3).set (3 * v) (.int .u64 (limb0 s))).set (3 * v + 1) (.int .u64 (limb1 s))).set (3 * v + 2) (.int .u64 (limb2 s)) = (acc.set v s).flatMap cells3 := by
 induction acc with
 | nil => intro v s hv; simp at hv
 | cons t acc ih =>
  intro v s hv
  cases v with
  | zero => simp [cells3, List.flatMap_cons]
  | succ v =>
   have := ih v s (by simpa using hv)
   rw [List.set_cons_succ, List.flatMap_cons, List.flatMap_cons, ← this]
   have e : ∀ (k : Nat) (u : Value) (L : List Value), (cells3 t ++ L).set (k + 3) u = cells3 t ++ L.set k u := by
    intro k u L
    rw [List.set_append_right _ _ (by rw [cells3_length]; omega), cells3_length]; congr 2
   rw [show 3 * (v + 1) = 3 * v + 3 by omega, show 3 * v + 3 + 1 = (3 * v + 1) + 3 by omega, show 3 * v + 3 + 2 = (3 * v + 2) + 3 by omega, e, e, e]
theorem accCells_put (acc : List Int) (v : Nat) (s : Int) (hv : v < acc.length) : put3 (accCells acc) (3 * v) s = accCells (acc.set v s) := by
 unfold put3 accCells
 rw [← accCells_set acc v s hv]
 simp
theorem accs_take (l : List S75) (i : Nat) (h : i < l.length) : accs (l.take (i + 1)) = addF (accs (l.take i)) l[i] := by
 unfold accs
 rw [List.take_succ_eq_append_getElem h, List.foldl_append]; rfl
theorem ksum_take (l : List S75) (i : Nat) (h : i < l.length) : ksum (l.take (i + 1)) = ksum (l.take i) + l[i].f0.f0 * l[i].f1 := by
 unfold ksum
 rw [List.take_succ_eq_append_getElem h, List.foldl_append]; rfl
theorem accs_length (l : List S75) : (accs l).length = 64 := by
 unfold accs; rw [foldF_length]; simp
theorem sumOut_succ (acc : List Int) (v : Nat) : sumOut acc (v + 1) = sumOut acc v ++ (if (fit192 (acc.getD v 0)).1 = 0 then [] else [⟨(v : Int), (fit192 (acc.getD v 0)).1⟩]) := by
 unfold sumOut
 rw [List.range_succ, List.filterMap_append]
 congr 1
 simp only [List.filterMap_cons, List.filterMap_nil]
 split <;> split <;> simp_all
theorem sumOk_succ (acc : List Int) (b : Bool) (v : Nat) : sumOk acc b (v + 1) = (sumOk acc b v && (fit192 (acc.getD v 0)).2) := by
 unfold sumOk
 rw [List.range_succ, List.all_append, ← Bool.and_assoc]
 simp
theorem sumOut_length (acc : List Int) (v : Nat) : (sumOut acc v).length ≤ v := by
 have := List.length_filterMap_le (fun i => if (fit192 (acc.getD i 0)).1 = 0 then none else some (⟨(i : Int), (fit192 (acc.getD i 0)).1⟩ : S44)) (List.range v)
 rwa [List.length_range] at this

/-! ### lin_sum: function 35, by hand -/
theorem sum_walk (A0 : Option Addr) (c0 : Nat) (l0 : List (S75)) (w : World) (hr0 : Kd.C k75 w A0 l0.length l0) (hc0 : l0.length ≤ c0) (hg : l0.all goodF = true) (r1 : Int) (r2 : List (S44)) (r3 : Int) (hr : (if sumOk (accs l0) (fit192 (ksum l0)).2 64 = true then ((fit192 (ksum l0)).1, sumOut (accs l0) 64, (0 : Int)) else (0, [], 5)) = (r1, r2, r3)) :
  Calls Try.prog 35 #[.slice A0 l0.length c0] w fun e w' => ∃ v1_ : Value, e = .returned (.tuple #[.agg #[.int .i64 r1, v1_], .int .i64 r3]) ∧ Kd.R k44 44 w' w.heap.size (fun _ => True) v1_ r2 ∧ Below w.heap.size w w' := by
 have hu28 := Try.underlying41
 have hu67 := Try.underlying75
 have hu47 := Try.underlying44
 have HR0 := zK hr0
 have HC0 := zK hc0
 have HG := zK hg
 obtain ⟨N0, hN0⟩ : ∃ N0, N0 = (fit192 (ksum l0)).1 := ⟨_, rfl⟩
 obtain ⟨D0, hD0⟩ : ∃ D0, D0 = (fit192 (ksum l0)).2 := ⟨_, rfl⟩
 rw [← hN0, ← hD0] at hr
 have HR := zK hr
 have HN0 := zK hN0
 have HD0 := zK hD0; clear hr0 hc0 hg hr hN0 hD0
 go_enter Try.func35, Try.ntmps35
 go_wp2_with (first
  | ((with_reducible refine gate_dst (N := 2) rfl ?_); refine zBox (cs := #[.int .i64 0, .slice none 0 0]) (t := 41) ?_; intro gR hg_ w1 hbox_ hb_; have ER := zK hg_; have BR0 := zK hbox_; have HB1 := zK hb_; clear hg_ hbox_ hb_)
  | ((with_reducible refine gate_dst (N := 4) rfl ?_); refine zBox (cs := accCells [0]) (t := 69) ?_; intro gK hg_ w2 hbox_ hb_; have EK := zK hg_; have BK0 := zK hbox_; have HB2 := zK hb_; clear hg_ hbox_ hb_)
  | ((with_reducible refine gate_dst (N := 5) rfl ?_); refine zBox (cs := accCells (List.replicate 64 0)) (t := 105) ?_; intro gB hg_ w3 hbox_ hb_; have EB := zK hg_; have BB0 := zK hbox_; have HB3 := zK hb_; clear hg_ hbox_ hb_))
 have NRK := zK (show gR ≠ gK by have := ER.out; have := EK.out; have := blk_lt BR0.out; omega)
 have NRB := zK (show gR ≠ gB by have := ER.out; have := EB.out; have := blk_lt BR0.out; have := HB2.out.size; omega)
 have NKB := zK (show gK ≠ gB by have := EB.out; have := blk_lt BK0.out; omega)
 have GR := zK (Nat.le_of_eq ER.out.symm)
 have GK := zK (show w.heap.size ≤ gK by have := EK.out; have := HB1.out.size; omega)
 have GB := zK (show w.heap.size ≤ gB by have := EB.out; have := HB1.out.size; have := HB2.out.size; omega)
 have BR := zK (blk_below (blk_below BR0.out HB2.out) HB3.out)
 have BK := zK (blk_below BK0.out HB3.out)
 have BB := BB0
 have HB := zK (below_step (below_step HB1.out HB2.out) HB3.out); clear HB1 HB2 HB3 BR0 BK0 BB0 ER EK EB
 go_loopg [18] l0.length (fun gk v18 w' => ∃ (x : Int), v18 = .int .i64 x ∧ Aside0 (∃ i : Nat, x = i ∧ i + gk = l0.length ∧ w'.heap[gK]? = some (.cells (accCells [ksum (l0.take i)]) 69 (0, 0)) ∧ w'.heap[gB]? = some (.cells (accCells (accs (l0.take i))) 105 (0, 0))) ∧ Aside0 (w'.heap[gR]? = some (.cells #[.int .i64 0, .slice none 0 0] 41 (0, 0))) ∧ Aside0 (Below w.heap.size w w'))
 case atStart => exact ⟨0, rfl, ⟨0, rfl, by omega, BK.out, BB.out⟩, ⟨BR.out⟩, ⟨HB.out⟩⟩
 case round =>
  clear BR BK BB HB
  obtain ⟨x, rfl, HX, BR, HB⟩ := hrel
  obtain ⟨i, hxi, hgk, bk, bb⟩ := HX.out; clear HX
  have BK := zK bk
  have BB := zK bb; clear bk bb
  have HI := zK hxi
  have HGK := zK hgk; clear hxi hgk
  cases gk with
  | zero =>
   have c1 : decide (x < (l0.length : Int)) = false := decide_eq_false (by have := HI.out; have := HGK.out; omega)
   have hti : l0.take i = l0 := List.take_of_length_le (by have := HGK.out; omega)
   have BK2 := zK (show wr.heap[gK]? = some (.cells (accCells [ksum l0]) 69 (0, 0)) by have h_ := BK.out; rw [hti] at h_; exact h_)
   have BB2 := zK (show wr.heap[gB]? = some (.cells (accCells (accs l0)) 105 (0, 0)) by have h_ := BB.out; rw [hti] at h_; exact h_)
   clear hti BK BB
   go_wp2_with (first
    | (go_at_call 34; refine (exact_Fits gK 0 (ksum l0) _ 69 (accCells [ksum l0]) BK2.out (accCells_at [ksum l0] 0 (by simp))).mono ?_; rintro e w' ⟨rfl, ⟨nd, rfl⟩⟩; rw [← HN0.out, ← HD0.out])
    | ((with_reducible refine gate_dst (N := 12) rfl ?_); refine zBox (cs := #[.int .i64 0, .slice none 0 0]) (t := 41) ?_; intro gO hg_ w8 hbox_ hb_; have EO := zK hg_; have BO0 := zK hbox_; have HB8 := zK hb_; clear hg_ hbox_ hb_; have hz0 : w8.cell? ⟨gO, 0, none⟩ = some (.int .i64 0) := (blk_cell BO0.out 0).trans rfl; have hz1 : w8.cell? ⟨gO, 1, none⟩ = some (.slice none 0 0) := (blk_cell BO0.out 1).trans rfl; have fz0 := blk_frozen BO0.out 0; have fz1 := blk_frozen BO0.out 1; have NBO := zK (show gB ≠ gO by have h_ := EO.out; have := blk_lt BB2.out; simp at h_; omega); have NRO := zK (show gR ≠ gO by have h_ := EO.out; have := blk_lt BR.out; simp at h_; omega); have GO := zK (show w.heap.size ≤ gO by have h_ := EO.out; have := HB.out.size; simp at h_; omega)))
   go_loopg [11, 52] 64 (fun gk v11 v52 w' => ∃ (b : Bool) (x : Int) (u : Value), v11 = .bool b ∧ v52 = .int .i64 x ∧ Aside0 (∃ i : Nat, x = i ∧ i + gk = 64 ∧ b = sumOk (accs l0) D0 i ∧ Kd.R k44 44 w' w.heap.size (fun _ => True) u (sumOut (accs l0) i)) ∧ Aside0 (w'.heap[gB]? = some (.cells (accCells (accs l0)) 105 (0, 0))) ∧ Aside0 (w'.heap[gO]? = some (.cells #[.int .i64 N0, u] 41 (0, 0))) ∧ Aside0 (w'.heap[gR]? = some (.cells #[.int .i64 0, .slice none 0 0] 41 (0, 0))) ∧ Aside0 (Below w.heap.size w w'))
   case atStart =>
    refine ⟨D0, 0, .slice none 0 0, rfl, rfl, ⟨0, rfl, rfl, by simp [sumOk], ?_⟩, ⟨?_⟩, ⟨?_⟩, ⟨?_⟩, ⟨?_⟩⟩
    ·exact Kd.R_nil _ _ _ _ _
    ·exact blk_far (blk_far (blk_below (zN BB2.out _) HB8.out) (p := ⟨gO, 0, none⟩) NBO.out (.int .i64 N0)) (p := ⟨gO, 1, none⟩) NBO.out (.slice none 0 0)
    ·exact blk_put (cs' := #[.int .i64 N0, .slice none 0 0]) (blk_put (cs' := #[.int .i64 N0, .slice none 0 0]) BO0.out 0 _ rfl) 1 _ rfl
    ·exact blk_far (blk_far (blk_below (zN BR.out _) HB8.out) (p := ⟨gO, 0, none⟩) NRO.out (.int .i64 N0)) (p := ⟨gO, 1, none⟩) NRO.out (.slice none 0 0)
    ·exact yS (yS (below_step (yN HB.out _) HB8.out) GO.out) GO.out
   case round =>
    clear BK2 BB2 HB8 BO0 BR HB HGK HI hz0 hz1 fz0 fz1 EO
    obtain ⟨b, x2, u, rfl, rfl, HX2, BB, BO, BR, HB⟩ := hrel
    obtain ⟨v, hxv, hgv, hbv, hou⟩ := HX2.out; clear HX2
    have HV := zK hxv
    have HGV := zK hgv
    have HBV := zK hbv
    have HO := zK hou; clear hxv hgv hbv hou
    cases gk with
    | zero =>
     have c3 : decide (x2 < 64) = false := decide_eq_false (by have := HV.out; have := HGV.out; omega)
     have hv64 : v = 64 := by have := HGV.out; omega
     obtain ⟨Ao, co, eo⟩ := Kd.R_slice HO.out
     subst eo
     have ho0 : wr.cell? ⟨gO, 0, none⟩ = some (.int .i64 N0) := (blk_cell BO.out 0).trans rfl
     have ho1 : wr.cell? ⟨gO, 1, none⟩ = some (.slice Ao (sumOut (accs l0) v).length co) := (blk_cell BO.out 1).trans rfl
     have hq0 : wr.cell? ⟨gR, 0, none⟩ = some (.int .i64 0) := (blk_cell BR.out 0).trans rfl
     have hq1 : wr.cell? ⟨gR, 1, none⟩ = some (.slice none 0 0) := (blk_cell BR.out 1).trans rfl
     have fq0 := blk_frozen BR.out 0
     have fq1 := blk_frozen BR.out 1
     have n1 := NRO.out
     have n2 := Ne.symm NRO.out
     have HRR := HR.out
     rw [hv64] at HBV
     rw [← HBV.out] at HRR
     have HO64 := zK (show sumOut (accs l0) v = sumOut (accs l0) 64 by rw [hv64])
     clear hv64
     cases b with
     | true =>
      rw [if_pos rfl] at HRR
      simp only [Prod.mk.injEq] at HRR
      obtain ⟨e1, e2, e3⟩ := HRR
      have E1 := zK e1
      have E2 := zK e2
      have E3 := zK e3; clear e1 e2 e3
      go_wp2
      refine bodyPost_ret (results_ct rfl _ _ gR 41 #[.int .i64 N0, .slice Ao (sumOut (accs l0) v).length co] (0, 0) _ rfl (blk_put (cs' := #[.int .i64 N0, .slice Ao (sumOut (accs l0) v).length co]) (blk_put (cs' := #[.int .i64 N0, .slice none 0 0]) BR.out 0 _ rfl) 1 _ rfl) Try.underlying41 rfl (by kernel_rfl)) rfl ?_
      refine ⟨.slice Ao (sumOut (accs l0) v).length co, by rw [← E1.out, ← E3.out]; rfl, ?_, yS (yS HB.out GR.out) GR.out⟩
      rw [← E2.out, ← HO64.out]
      exact Kd.R_mono (Kd.R_far (p := ⟨gR, 1, none⟩) (Kd.R_far (p := ⟨gR, 0, none⟩) (Kd.R_types HO.out BR.out (by decide)) (fun _ hk => hk.2) (.int .i64 N0)) (fun _ hk => hk.2) (.slice Ao (sumOut (accs l0) v).length co)) (fun _ hk => trivial)
     | false =>
      rw [if_neg (by simp)] at HRR
      simp only [Prod.mk.injEq] at HRR
      obtain ⟨e1, e2, e3⟩ := HRR
      have E1 := zK e1
      have E2 := zK e2
      have E3 := zK e3; clear e1 e2 e3
      go_wp2
      refine bodyPost_ret (results_ct rfl _ _ gR 41 #[.int .i64 0, .slice none 0 0] (0, 0) _ rfl (blk_put (cs' := #[.int .i64 0, .slice none 0 0]) (blk_put (cs' := #[.int .i64 0, .slice none 0 0]) BR.out 0 _ rfl) 1 _ rfl) Try.underlying41 rfl (by kernel_rfl)) rfl ?_
      refine ⟨.slice none 0 0, by rw [← E1.out, ← E3.out]; rfl, ?_, yS (yS HB.out GR.out) GR.out⟩
      rw [← E2.out]
      exact Kd.R_nil _ _ _ _ _
    | succ gkv =>
     have p3 : 0 ≤ x2 := by have := HV.out; omega
     have q3 : x2 < 64 := by have := HV.out; have := HGV.out; omega
     have c3 : decide (x2 < 64) = true := decide_eq_true q3
     have HP3 := zK (And.intro p3 q3)
     have HVX := zK (show x2.toNat = v by have := HV.out; omega)
     obtain ⟨M1, hM1⟩ : ∃ M1, M1 = (fit192 ((accs l0).getD v 0)).1 := ⟨_, rfl⟩
     obtain ⟨M2, hM2⟩ : ∃ M2, M2 = (fit192 ((accs l0).getD v 0)).2 := ⟨_, rfl⟩
     have HM1 := zK hM1
     have HM2 := zK hM2; clear hM1 hM2
     have HS1 := zK (show sumOk (accs l0) D0 (v + 1) = (b && M2) by rw [sumOk_succ, ← HBV.out, ← HM2.out])
     have HS2 := zK (show sumOut (accs l0) (v + 1) = sumOut (accs l0) v ++ (if M1 = 0 then [] else [⟨x2, M1⟩]) by rw [sumOut_succ, ← HM1.out, HV.out])
     have CF := zK (show ∀ W : World, W.heap[gB]? = some (.cells (accCells (accs l0)) 105 (0, 0)) → Calls Try.prog 34 #[.pointer (some ⟨gB, x2.toNat * 3, none⟩)] W fun e W' => e = .returned (.tuple #[.int .i64 M1, .bool M2]) ∧ Drawn0 W W' by
      intro W h_
      have h3 := accCells_at (accs l0) v (by rw [accs_length]; have := HGV.out; omega)
      rw [Nat.mul_comm, ← HVX.out] at h3
      rw [HM1.out, HM2.out, ← HVX.out]
      exact exact_Fits gB (x2.toNat * 3) _ W _ _ h_ h3)
     have ho0 : wr.cell? ⟨gO, 0, none⟩ = some (.int .i64 N0) := (blk_cell BO.out 0).trans rfl
     have ho1 : wr.cell? ⟨gO, 1, none⟩ = some u := (blk_cell BO.out 1).trans rfl
     by_cases hm : M1 = 0
     ·have m1 : (M1 == 0) = true := beq_iff_eq.2 hm
      have m2 : (M1 != 0) = false := bne_eq_false_iff_eq.2 hm
      have HMZ := zK hm; clear hm
      cases b
      all_goals
       go_wp2_with (first | (go_at_call 34; refine (CF.out _ BB.out).mono ?_; rintro e w' ⟨rfl, ⟨nd, rfl⟩⟩))
       go_roundg gkv
       case measure => omega
       case rel =>
        refine ⟨_, _, u, (by first | rfl | (simp; done) | (simp [*]; done)), (by first | rfl | (simp; done) | (simp [*]; done)), ⟨v + 1, ?_, by have := HGV.out; omega, ?_, ?_⟩, ⟨zN BB.out _⟩, ⟨zN BO.out _⟩, ⟨zN BR.out _⟩, ⟨yN HB.out _⟩⟩
        ·have := HV.out; have := HP3.out; first | omega | (unfold wrap64; omega)
        ·rw [HS1.out]; simp
        ·rw [HS2.out, if_pos HMZ.out, List.append_nil]; exact Kd.R_drewN HO.out _
     ·have m1 : (M1 == 0) = false := beq_eq_false_iff_ne.2 hm
      have m2 : (M1 != 0) = true := bne_iff_ne.2 hm
      have HMZ := zK hm; clear hm
      obtain ⟨Y, hY⟩ : ∃ Y : List S44, Y = sumOut (accs l0) v ++ [⟨x2, M1⟩] := ⟨_, rfl⟩
      have NY := zK hY; clear hY
      cases b
      all_goals
       go_wp2_with (first
        | (go_at_call 34; refine (CF.out _ BB.out).mono ?_; rintro e w' ⟨rfl, ⟨nd, rfl⟩⟩)
        | ((with_reducible refine gate_builtin (b := .append) (xs := #[.tmp 68, .tmp 72]) rfl ?_); at_builtin; refine Kd.R_append k44 (w0 := w) w.heap.size rfl (.tmp 68) (.tmp 72) 39 44 (.agg #[(.int .i64 0), (.int .i64 0)]) 16 rfl Try.underlying39 info44 rfl (by decide) (by omega) u (sumOut (accs l0) v) (⟨x2, M1⟩ : S44) [.int .i64 x2, .int .i64 M1] (fun _ => True) (fun _ => False) rfl rfl ?aP (fun _ hk => hk.elim) ?aF ?aO ?aB ?aS ?aL ?_; (case aP => exact k44_mkM _ _ _ (⟨x2, M1⟩ : S44)); (case aB => exact yN HB.out _); (case aF => exact (fun _ _ => trivial)); (case aO => exact Kd.R_drewN HO.out _); (case aS => exact HB.out.size); (case aL => have h1_ := sumOut_length (accs l0) v; have := HGV.out; omega); intro v1 w9 ho_ hb_ hg_ hat_; have BB9 := zK (blk_grown (g := gB) (zN BB.out nd) hg_ (Kd.R_ne HO.out BB.out (by decide))); have BO9 := zK (blk_grown (g := gO) (zN BO.out nd) hg_ (Kd.R_ne HO.out BO.out (by decide))); have BR9 := zK (blk_grown (g := gR) (zN BR.out nd) hg_ (Kd.R_ne HO.out BR.out (by decide))); rw [← NY.out] at ho_; have HB9 := zK hb_; have HO9 := zK ho_; clear ho_ hb_ hg_ hat_ ho0 ho1; obtain ⟨Ao, co, eo⟩ := Kd.R_slice HO9.out; subst eo; have ho0 : w9.cell? ⟨gO, 0, none⟩ = some (.int .i64 N0) := (blk_cell BO9.out 0).trans rfl; have ho1 : w9.cell? ⟨gO, 1, none⟩ = some u := (blk_cell BO9.out 1).trans rfl; have fo0 := blk_frozen BO9.out 0; have fo1 := blk_frozen BO9.out 1))
       go_roundg gkv
       case measure => omega
       case rel =>
        refine ⟨_, _, _, (by first | rfl | (simp; done) | (simp [*]; done)), (by first | rfl | (simp; done) | (simp [*]; done)), ⟨v + 1, ?_, by have := HGV.out; omega, ?_, ?_⟩, ⟨blk_far BB9.out (p := ⟨gO, 1, none⟩) NBO.out _⟩, ⟨blk_put (cs' := #[.int .i64 N0, .slice Ao Y.length co]) BO9.out 1 _ rfl⟩, ⟨blk_far BR9.out (p := ⟨gO, 1, none⟩) NRO.out _⟩, ⟨yS HB9.out GO.out⟩⟩
        ·have := HV.out; have := HP3.out; first | omega | (unfold wrap64; omega)
        ·rw [HS1.out]; simp
        ·rw [HS2.out, if_neg HMZ.out, ← NY.out]
         exact Kd.R_mono (Kd.R_far (p := ⟨gO, 1, none⟩) (Kd.R_types HO9.out BO9.out (by decide)) (fun _ hk => hk.2) _) (fun _ hk => trivial)
  | succ gko =>
   have p1 : 0 ≤ x := by have := HI.out; omega
   have q1 : x < (l0.length : Int) := by have := HI.out; have := HGK.out; omega
   obtain ⟨XF, hXF⟩ : ∃ XF, XF = rd_T75 l0 x := ⟨_, rfl⟩
   have HXF := zK (show i < l0.length ∧ ∀ h : i < l0.length, XF = l0[i] by
    have := HI.out; have := HGK.out
    refine ⟨by omega, fun h => ?_⟩
    rw [hXF, HI.out]; simp [rd_T75, h])
   have HGF := zK (show goodF XF = true by rw [HXF.out.2 HXF.out.1]; exact List.all_eq_true.1 HG.out _ (List.getElem_mem _))
   obtain ⟨ad, A1, k1, e1, hx0, hx1, hx2, hl1, hi1⟩ := at_T75 HR0.out x p1 q1
   rw [← hXF] at hx0 hx1 hx2 hl1 hi1; clear hXF
   cases e1
   replace hx0 := zcl HB hx0
   replace hx1 := zcl HB hx1
   replace hx2 := zcl HB hx2
   have HRX := zK hi1
   have HLX := zK hl1; clear hi1 hl1
   have c1 : decide (x < (l0.length : Int)) = true := decide_eq_true q1
   replace p1 := eq_true p1
   replace q1 := eq_true q1
   have RXF := zK (show in64 XF.f0.f0 = true ∧ in64 XF.f1 = true ∧ XF.f0.f1.all goodM = true by
    have h := HGF.out; unfold goodF at h; rw [Bool.and_eq_true, Bool.and_eq_true] at h; exact ⟨h.1.1, h.1.2, h.2⟩)
   clear HGF
   have KE := zK (show ksum (l0.take (i + 1)) = ksum (l0.take i) + XF.f0.f0 * XF.f1 by have e_ := HXF.out.2 HXF.out.1; rw [ksum_take l0 i HXF.out.1, ← e_])
   have AE := zK (show accs (l0.take (i + 1)) = XF.f0.f1.foldl (addM XF.f1) (accs (l0.take i)) by have e_ := HXF.out.2 HXF.out.1; rw [accs_take l0 i HXF.out.1, ← e_]; rfl)
   go_wp2_with (first
    | ((with_reducible refine gate_dst (N := 7) rfl ?_); refine zBox (cs := #[.int .i64 0, .slice none 0 0, .int .i64 0]) (t := 75) ?_; intro gX hg_ w4 hbox_ hb_; have EX := zK hg_; have BX0 := zK hbox_; have HB4 := zK hb_; clear hg_ hbox_ hb_; have hz0 : w4.cell? ⟨gX, 0, none⟩ = some (.int .i64 0) := (blk_cell BX0.out 0).trans rfl; have hz1 : w4.cell? ⟨gX, 1, none⟩ = some (.slice none 0 0) := (blk_cell BX0.out 1).trans rfl; have hz2 : w4.cell? ⟨gX, 2, none⟩ = some (.int .i64 0) := (blk_cell BX0.out 2).trans rfl; have fz0 := blk_frozen BX0.out 0; have fz1 := blk_frozen BX0.out 1; have fz2 := blk_frozen BX0.out 2; have NKX := zK (show gK ≠ gX by have := EX.out; have := blk_lt BK.out; omega); have NBX := zK (show gB ≠ gX by have := EX.out; have := blk_lt BB.out; omega); have NRX := zK (show gR ≠ gX by have := EX.out; have := blk_lt BR.out; omega); have GX := zK (show w.heap.size ≤ gX by have := EX.out; have := HB.out.size; omega))
    | (go_at_call 33; refine (exact_Add gK 0 (ksum (l0.take i)) XF.f0.f0 XF.f1 _ 69 (accCells [ksum (l0.take i)]) (in64_iff RXF.out.1).1 (in64_iff RXF.out.1).2 (in64_iff RXF.out.2.1).1 (in64_iff RXF.out.2.1).2 ?rb (accCells_at [ksum (l0.take i)] 0 (by simp))).mono ?_; (case rb => repeat (first | exact blk_below BK.out HB4.out | refine blk_far ?_ NKX.out _)); rintro e w5 ⟨rfl, hk_, hs_⟩; have BK5 : Aside0 (w5.heap[gK]? = some (.cells (accCells [ksum (l0.take (i + 1))]) 69 (0, 0))) := zK (hk_.trans (congrArg (fun z => some (Obj.cells z 69 (0, 0))) ((accCells_put [ksum (l0.take i)] 0 (ksum (l0.take i) + XF.f0.f0 * XF.f1) (by simp)).trans (by rw [KE.out]; rfl)))); have BX5 := zK ((hs_.block gX (Ne.symm NKX.out)).trans (blk_put (cs' := #[.int .i64 XF.f0.f0, .slice A1 XF.f0.f1.length k1, .int .i64 XF.f1]) (blk_put (cs' := #[.int .i64 XF.f0.f0, .slice A1 XF.f0.f1.length k1, .int .i64 0]) (blk_put (cs' := #[.int .i64 XF.f0.f0, .slice none 0 0, .int .i64 0]) BX0.out 0 _ rfl) 1 _ rfl) 2 _ rfl)); have BB5 := zK ((hs_.block gB (Ne.symm NKB.out)).trans (blk_far (blk_far (blk_far (blk_below BB.out HB4.out) (p := ⟨gX, 0, none⟩) NBX.out (.int .i64 XF.f0.f0)) (p := ⟨gX, 1, none⟩) NBX.out (.slice A1 XF.f0.f1.length k1)) (p := ⟨gX, 2, none⟩) NBX.out (.int .i64 XF.f1))); have BR5 := zK ((hs_.block gR NRK.out).trans (blk_far (blk_far (blk_far (blk_below BR.out HB4.out) (p := ⟨gX, 0, none⟩) NRX.out (.int .i64 XF.f0.f0)) (p := ⟨gX, 1, none⟩) NRX.out (.slice A1 XF.f0.f1.length k1)) (p := ⟨gX, 2, none⟩) NRX.out (.int .i64 XF.f1))); have HB5 := zK (Below.trans (yS (yS (yS (below_step HB.out HB4.out) GX.out) GX.out) GX.out) (hs_.below GK.out)); clear hk_ hs_ hx0 hx1 hx2 hz0 hz1 hz2 fz0 fz1 fz2 BK BX0 BB BR HB HB4 EX; have hy0 : w5.cell? ⟨gX, 0, none⟩ = some (.int .i64 XF.f0.f0) := (blk_cell BX5.out 0).trans rfl; have hy1 : w5.cell? ⟨gX, 1, none⟩ = some (.slice A1 XF.f0.f1.length k1) := (blk_cell BX5.out 1).trans rfl; have hy2 : w5.cell? ⟨gX, 2, none⟩ = some (.int .i64 XF.f1) := (blk_cell BX5.out 2).trans rfl))
   go_loopg [32] XF.f0.f1.length (fun gm v32 w' => ∃ (y : Int), v32 = .int .i64 y ∧ Aside0 (∃ j : Nat, y = j ∧ j + gm = XF.f0.f1.length ∧ w'.heap[gB]? = some (.cells (accCells ((XF.f0.f1.take j).foldl (addM XF.f1) (accs (l0.take i)))) 105 (0, 0))) ∧ Aside0 (w'.heap[gK]? = some (.cells (accCells [ksum (l0.take (i + 1))]) 69 (0, 0))) ∧ Aside0 (w'.heap[gX]? = some (.cells #[.int .i64 XF.f0.f0, .slice A1 XF.f0.f1.length k1, .int .i64 XF.f1] 75 (0, 0))) ∧ Aside0 (w'.heap[gR]? = some (.cells #[.int .i64 0, .slice none 0 0] 41 (0, 0))) ∧ Aside0 (Below w.heap.size w w'))
   case atStart => exact ⟨0, rfl, ⟨0, rfl, by omega, BB5.out⟩, ⟨BK5.out⟩, ⟨BX5.out⟩, ⟨BR5.out⟩, ⟨HB5.out⟩⟩
   case round =>
    clear BB5 BK5 BX5 BR5 HB5 hy0 hy1 hy2
    obtain ⟨y, rfl, HY, BK, BX, BR, HB⟩ := hrel
    obtain ⟨j, hyj, hgm, bb⟩ := HY.out; clear HY
    have BB := zK bb; clear bb
    have HJ := zK hyj
    have HGM := zK hgm; clear hyj hgm
    cases gk with
    | zero =>
     have c2 : decide (y < (XF.f0.f1.length : Int)) = false := decide_eq_false (by have := HJ.out; have := HGM.out; omega)
     go_wp2
     go_roundg gko
     case measure => omega
     case rel =>
      have hx1 : wrap64 (x + 1) = ((i + 1 : Nat) : Int) := by have := HI.out; have := HXF.out.1; have := HR0.out.2.1; unfold wrap64; omega
      have hj : XF.f0.f1.take j = XF.f0.f1 := List.take_of_length_le (by have := HGM.out; omega)
      refine ⟨wrap64 (x + 1), (by first | rfl | (simp; done) | (simp [*]; done)), ⟨i + 1, hx1, by have := HGK.out; omega, BK.out, ?_⟩, ⟨BR.out⟩, ⟨HB.out⟩⟩
      rw [AE.out]
      have hb := BB.out
      rw [hj] at hb
      exact hb
    | succ gki =>
     have p2 : 0 ≤ y := by have := HJ.out; omega
     have q2 : y < (XF.f0.f1.length : Int) := by have := HJ.out; have := HGM.out; omega
     obtain ⟨XM, hXM⟩ : ∃ XM, XM = rd_T44 XF.f0.f1 y := ⟨_, rfl⟩
     have HXM := zK (show j < XF.f0.f1.length ∧ ∀ h : j < XF.f0.f1.length, XM = XF.f0.f1[j] by
      have := HJ.out; have := HGM.out
      refine ⟨by omega, fun h => ?_⟩
      rw [hXM, HJ.out]; simp [rd_T44, h])
     have HGM2 := zK (show goodM XM = true by rw [HXM.out.2 HXM.out.1]; exact List.all_eq_true.1 RXF.out.2.2 _ (List.getElem_mem _))
     obtain ⟨ad2, e2, hm0, hm1⟩ := at_T44 HRX.out y p2 q2
     rw [← hXM] at hm0 hm1; clear hXM
     cases e2
     replace hm0 := (HB.out.cell (World.block_lt_of_cell? w _ hm0)).trans hm0
     replace hm1 := (HB.out.cell (World.block_lt_of_cell? w _ hm1)).trans hm1
     have c2 : decide (y < (XF.f0.f1.length : Int)) = true := decide_eq_true q2
     replace p2 := eq_true p2
     replace q2 := eq_true q2
     have hy0 : wr.cell? ⟨gX, 0, none⟩ = some (.int .i64 XF.f0.f0) := (blk_cell BX.out 0).trans rfl
     have hy2 : wr.cell? ⟨gX, 2, none⟩ = some (.int .i64 XF.f1) := (blk_cell BX.out 2).trans rfl
     go_wp2_with (first
      | ((with_reducible refine gate_dst (N := 9) rfl ?_); refine zBox (cs := #[.int .i64 0, .int .i64 0]) (t := 44) ?_; intro gM hg_ w6 hbox_ hb_; have EM := zK hg_; have BM0 := zK hbox_; have HB6 := zK hb_; clear hg_ hbox_ hb_; have hz0 : w6.cell? ⟨gM, 0, none⟩ = some (.int .i64 0) := (blk_cell BM0.out 0).trans rfl; have hz1 : w6.cell? ⟨gM, 1, none⟩ = some (.int .i64 0) := (blk_cell BM0.out 1).trans rfl; have fz0 := blk_frozen BM0.out 0; have fz1 := blk_frozen BM0.out 1))
     have hv := HGM2.out
     unfold goodM at hv
     rw [Bool.and_eq_true, Bool.and_eq_true] at hv
     have RM := zK (in64_iff hv.2)
     have v0 : 0 ≤ XM.f0 := of_decide_eq_true hv.1.1
     have v1 : XM.f0 < 64 := of_decide_eq_true hv.1.2; clear hv
     have HV := zK (And.intro v0 v1)
     have NKM := zK (show gK ≠ gM by have := EM.out; have := blk_lt BK.out; omega)
     have NBM := zK (show gB ≠ gM by have := EM.out; have := blk_lt BB.out; omega)
     have NRM := zK (show gR ≠ gM by have := EM.out; have := blk_lt BR.out; omega)
     have NXM := zK (show gX ≠ gM by have := EM.out; have := blk_lt BX.out; omega)
     have GM := zK (show w.heap.size ≤ gM by have := EM.out; have := HB.out.size; omega)
     have BX6 := zK (blk_below BX.out HB6.out)
     have hz6 : w6.cell? ⟨gX, 2, none⟩ = some (.int .i64 XF.f1) := (blk_cell BX6.out 2).trans rfl
     have n1 := NXM.out
     have n2 := Ne.symm NXM.out
     have HAL := zK (show XM.f0.toNat < ((XF.f0.f1.take j).foldl (addM XF.f1) (accs (l0.take i))).length by rw [foldM_length, accs_length]; have := HV.out; omega)
     have HME := zK (show (XF.f0.f1.take (j + 1)).foldl (addM XF.f1) (accs (l0.take i)) = addM XF.f1 ((XF.f0.f1.take j).foldl (addM XF.f1) (accs (l0.take i))) XM by
      have e_ := HXM.out.2 HXM.out.1
      rw [List.take_succ_eq_append_getElem HXM.out.1, List.foldl_append, ← e_]; rfl)
     go_region_with (go_at_call 33; refine (exact_Add gB (XM.f0.toNat * 3) (((XF.f0.f1.take j).foldl (addM XF.f1) (accs (l0.take i))).getD XM.f0.toNat 0) XM.f1 XF.f1 _ 105 (accCells ((XF.f0.f1.take j).foldl (addM XF.f1) (accs (l0.take i)))) RM.out.1 RM.out.2 (in64_iff RXF.out.2.1).1 (in64_iff RXF.out.2.1).2 ?rb ?rc).mono ?_; (case rb => exact zD (blk_far (blk_far (blk_below BB.out HB6.out) (p := ⟨gM, 0, none⟩) NBM.out (.int .i64 XM.f0)) (p := ⟨gM, 1, none⟩) NBM.out (.int .i64 XM.f1))); (case rc => have h_ := accCells_at _ _ HAL.out; rw [Nat.mul_comm] at h_; exact h_); rintro e w7 ⟨rfl, hk_, hs_⟩; have BB7 := zK (hk_.trans (congrArg (fun z => some (Obj.cells z 105 (0, 0))) (show _ = accCells ((XF.f0.f1.take (j + 1)).foldl (addM XF.f1) (accs (l0.take i))) by rw [HME.out, Nat.mul_comm XM.f0.toNat 3, accCells_put _ _ _ HAL.out]; rfl))); have BX7 := zK ((hs_.block gX (Ne.symm NBX.out)).trans (zD (blk_far (blk_far BX6.out (p := ⟨gM, 0, none⟩) NXM.out (.int .i64 XM.f0)) (p := ⟨gM, 1, none⟩) NXM.out (.int .i64 XM.f1)))); have BK7 := zK ((hs_.block gK NKB.out).trans (zD (blk_far (blk_far (blk_below BK.out HB6.out) (p := ⟨gM, 0, none⟩) NKM.out (.int .i64 XM.f0)) (p := ⟨gM, 1, none⟩) NKM.out (.int .i64 XM.f1)))); have BR7 := zK ((hs_.block gR NRB.out).trans (zD (blk_far (blk_far (blk_below BR.out HB6.out) (p := ⟨gM, 0, none⟩) NRM.out (.int .i64 XM.f0)) (p := ⟨gM, 1, none⟩) NRM.out (.int .i64 XM.f1)))); have HB7 := zK (Below.trans (yD (yS (yS (below_step HB.out HB6.out) GM.out) GM.out)) (hs_.below GB.out)))
     all_goals
      go_wp2
      go_roundg gki
      case measure => omega
      case rel =>
       refine ⟨wrap64 (y + 1), (by first | rfl | (simp; done) | (simp [*]; done)), ⟨j + 1, ?_, by have := HGM.out; omega, BB7.out⟩, ⟨BK7.out⟩, ⟨BX7.out⟩, ⟨BR7.out⟩, ⟨HB7.out⟩⟩
       have := HJ.out; have := HXM.out.1; have := HRX.out.2.1; unfold wrap64; omega

theorem lin_sum.calls (A0 : Option Addr) (c0 : Nat) (l0 : List (S75)) (r1 : Int) (r2 : List (S44)) (r3 : Int) (w : World) (hr0 : Kd.C k75 w A0 l0.length l0) (hc0 : l0.length ≤ c0) (h : lin_sum.f l0 = some (r1, r2, r3)) :
  Calls Try.prog 35 #[.slice A0 l0.length c0] w fun e w' => ∃ v1_ : Value, e = .returned (.tuple #[.agg #[.int .i64 r1, v1_], .int .i64 r3]) ∧ Kd.R k44 44 w' w.heap.size (fun _ => True) v1_ r2 ∧ Below w.heap.size w w' := by
 unfold lin_sum.f at h
 split at h
 ·rename_i hg
  exact sum_walk A0 c0 l0 w hr0 hc0 hg r1 r2 r3 (Option.some.inj h)
 ·cases h

end Go.Proofs.Ytjinmlpekecmbaa.PEuclidNone
