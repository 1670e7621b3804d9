/- Words of printed walks: a fact of a world, carried over what the call does next, found by instances. Written by a program of this session; no condition but what stands in each theorem. -/
import Derived.Test.YtjinmlpekecmbaaWMore
import Derived.Test.YtjinmlpekecmbaaWWords
import Derived.Test.YtjinmlpekecmbaaWN
namespace Go.Proofs.YtjinmlpekecmbaaW.PrintWords
open Go.RowKit
set_option linter.unusedVariables false
/-- From a world to a later one by blocks and draws. -/
class MvS (W W' : World) : Prop where
  h : ∀ P : World → Prop, (∀ X o, P X → P (X.alloc o)) → (∀ X, P X → P X.drew) → (∀ X n, P X → P (X.drewN n)) → P W → P W'
instance mvs_refl (W : World) : MvS W W := ⟨fun _ _ _ _ h => h⟩
instance mvs_alloc (W W' : World) (o : Obj) [i : MvS W W'] : MvS W (W'.alloc o) := ⟨fun P a b c h => a _ o (i.h P a b c h)⟩
instance mvs_drew (W W' : World) [i : MvS W W'] : MvS W W'.drew := ⟨fun P a b c h => b _ (i.h P a b c h)⟩
instance mvs_drewN (W W' : World) (n : Nat) [i : MvS W W'] : MvS W (W'.drewN n) := ⟨fun P a b c h => c _ n (i.h P a b c h)⟩
theorem zv {α : Type} {d : Kd α} {e base : Nat} {ok : Nat → Prop} {W W' : World} {v : Value} {xs : List α} (h : Aside0 (Kd.V d e W base ok v xs)) [i : MvS W W'] : Kd.V d e W' base ok v xs :=
  i.h (fun X => Kd.V d e X base ok v xs) (fun _ o h => Kd.V_alloc h o) (fun _ h => Kd.V_drew h) (fun _ n h => Kd.V_drewN h n) h.out
theorem zn {α : Type} {d : Kd α} {e base : Nat} {ok : Nat → Prop} {W W' : World} {v : Value} {xs : List α} (h : Aside0 (Kd.N d e W base ok v xs)) [i : MvS W W'] : Kd.N d e W' base ok v xs :=
  i.h (fun X => Kd.N d e X base ok v xs) (fun _ o h => Kd.N_alloc h o) (fun _ h => Kd.N_drew h) (fun _ n h => Kd.N_drewN h n) h.out
theorem zr {α : Type} {d : Kd α} {e base : Nat} {ok : Nat → Prop} {W W' : World} {v : Value} {xs : List α} (h : Aside0 (d.R e W base ok v xs)) [i : MvS W W'] : d.R e W' base ok v xs :=
  i.h (fun X => d.R e X base ok v xs) (fun _ o h => Kd.R_alloc h o) (fun _ h => Kd.R_drew h) (fun _ n h => Kd.R_drewN h n) h.out
/-- What lies below stays: over blocks, draws and stores into new blocks. -/
class BSt (w W W' : World) : Prop where
  h : Below w.heap.size w W → Below w.heap.size w W'
instance bst_refl (w W : World) : BSt w W W := ⟨fun h => h⟩
instance bst_alloc (w W W' : World) (o : Obj) [i : BSt w W W'] : BSt w W (W'.alloc o) := ⟨fun h => below_alloc (i.h h) o⟩
instance bst_drew (w W W' : World) [i : BSt w W W'] : BSt w W W'.drew := ⟨fun h => below_drew1 (i.h h)⟩
instance bst_drewN (w W W' : World) (n : Nat) [i : BSt w W W'] : BSt w W (W'.drewN n) := ⟨fun h => pw_below_drewN (i.h h) n⟩
instance bst_set (w W W' : World) (g j : Nat) (v : Value) [i : BSt w W W'] [k : Aside0 (w.heap.size ≤ g)] : BSt w W (W'.setCell ⟨g, j, none⟩ v) := ⟨fun h => below_set (i.h h) k.out⟩
theorem zo {w W W' : World} (h : Aside0 (Below w.heap.size w W)) [i : BSt w W W'] : Below w.heap.size w W' := i.h h.out
/-- A block of cells stays: over blocks, draws and stores into other blocks. -/
class KSt (g : Nat) (W W' : World) : Prop where
  h : ∀ (cs : Array Value) (t : TypeId), W.heap[g]? = some (.cells cs t (0, 0)) → W'.heap[g]? = some (.cells cs t (0, 0))
instance kst_refl (g : Nat) (W : World) : KSt g W W := ⟨fun _ _ h => h⟩
instance kst_alloc (g : Nat) (W W' : World) (o : Obj) [i : KSt g W W'] : KSt g W (W'.alloc o) := ⟨fun cs t h => blk_alloc (i.h cs t h) o⟩
instance kst_drew (g : Nat) (W W' : World) [i : KSt g W W'] : KSt g W W'.drew := ⟨fun cs t h => blk_drew (i.h cs t h)⟩
instance kst_drewN (g : Nat) (W W' : World) (n : Nat) [i : KSt g W W'] : KSt g W (W'.drewN n) := ⟨fun cs t h => blk_drewN (i.h cs t h) n⟩
instance kst_set (g : Nat) (W W' : World) (g2 j : Nat) (v : Value) [i : KSt g W W'] [k : Aside0 (g ≠ g2)] : KSt g W (W'.setCell ⟨g2, j, none⟩ v) := ⟨fun cs t h => blk_far (i.h cs t h) (p := ⟨g2, j, none⟩) k.out v⟩
theorem zb {g : Nat} {W W' : World} {cs : Array Value} {t : TypeId} (h : Aside0 (W.heap[g]? = some (.cells cs t (0, 0)))) [i : KSt g W W'] : W'.heap[g]? = some (.cells cs t (0, 0)) := i.h cs t h.out
/-- Back to the world ahead of blocks and draws. -/
class MvO (W' : World) (W : outParam World) : Prop where
  h : MvS W W'
instance (priority := 10) mvo_refl (W : World) : MvO W W := ⟨mvs_refl W⟩
instance mvo_alloc (W W' : World) (o : Obj) [i : MvO W' W] : MvO (W'.alloc o) W := ⟨@mvs_alloc W W' o i.h⟩
instance mvo_drew (W W' : World) [i : MvO W' W] : MvO W'.drew W := ⟨@mvs_drew W W' i.h⟩
instance mvo_drewN (W W' : World) (n : Nat) [i : MvO W' W] : MvO (W'.drewN n) W := ⟨@mvs_drewN W W' n i.h⟩
theorem zM {g : Nat} {W W' : World} {o : Obj} [i : MvO W' W] (h : W.heap[g]? = some o) : W'.heap[g]? = some o :=
  i.h.h (fun X => X.heap[g]? = some o) (fun _ o2 h => blk_alloc h o2) (fun _ h => blk_drew h) (fun _ n h => blk_drewN h n) h
end Go.Proofs.YtjinmlpekecmbaaW.PrintWords
