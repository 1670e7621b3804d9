/- What strings.Builder's writing methods come to over this program (their text as the translator cuts it: the copy check's panic is refused there): walked anew. Then the texts of package lin: a number's text, a part's, a form's. No condition but what stands in each theorem. -/
import Derived.Test.YtmedciidghmkkaaDoorShelf
import Derived.Lib.Builder
import Derived.Lib.AppendStr
import Derived.Lib.AppendIntMem
import Derived.Lib.ItoaLen
import Derived.Lib.UnsafeStr
import Derived.Lib.Strings
import Derived.Lib.Slices
import Derived.Lib.Walk
import Derived.OwnWalk
import Derived.WalkKit
import Derived.Laws.Externs
import Derived.Laws.IdiomCopy
import Derived.Laws.BitsLemmas
set_option linter.unusedVariables false
namespace Go.Proofs.YtmedciidghmkkaaDoor.Txt
open Go.Shelf Go.RowKit

theorem size76 : (Tryd.prog.info? 76).map (·.size) = some 2 := by kernel_rfl
theorem lies76 : liesAt Tryd.prog Tryd.prog.depth 76 (2 / Tryd.prog.cellsOf 76) 0 76 1 = true := by kernel_rfl
theorem info5 : (Tryd.prog.info? 5).map (fun i => (i.zero, i.size, i.bytes)) = some (some (.int .u8 0), 1, 1) := by kernel_rfl

set_option maxHeartbeats 1000000 in
set_option maxRecDepth 100000 in
theorem copyCheck_used (b : Nat) (w : World) (h0 : w.cell? ⟨b, 0, none⟩ = some (.pointer (some ⟨b, 0, none⟩))) :
    Calls Tryd.prog 72 #[.pointer (some ⟨b, 0, none⟩)] w fun e w' => e = .returned (.tuple #[]) ∧ w' = w := by
  obtain ⟨j, hj, _⟩ := Option.map_eq_some_iff.1 size76
  go_enter Tryd.func72, Tryd.ntmps72
  go_wp2
  rw [Lib.run_neq_ptr_same w _ Tryd.underlying73 hj]
  go_wp2
  go_end0
  exact ⟨rfl, rfl⟩

set_option maxHeartbeats 1000000 in
set_option maxRecDepth 100000 in
theorem copyCheck_fresh (b : Nat) (w : World) (h0 : w.cell? ⟨b, 0, none⟩ = some (.pointer none)) (hsh : w.shape? b = some (76, 2)) (hfz : w.frozen? ⟨b, 0, none⟩ = false) :
    Calls Tryd.prog 72 #[.pointer (some ⟨b, 0, none⟩)] w fun e w' => e = .returned (.tuple #[]) ∧ w' = w.setCell ⟨b, 0, none⟩ (.pointer (some ⟨b, 0, none⟩)) := by
  obtain ⟨j, hj, hjs⟩ := Option.map_eq_some_iff.1 size76
  go_enter Tryd.func72, Tryd.ntmps72
  go_wp2
  rw [Lib.run_to_unsafe w ⟨b, 0, none⟩ Tryd.underlying73 Tryd.underlying113 hj (by rw [hjs]; decide) hsh (Nat.zero_lt_succ 1)]
  simp only [Result.andThen]
  rw [Oper.upon_value]
  go_wp2
  rw [run_callFunc_extern Tryd.func76 (by kernel_rfl) (by kernel_rfl) (by kernel_rfl) (e := Extern.AbiNoEscape.same) (by kernel_rfl)]
  rw [Lib.run_noEscape]
  simp only [Result.andThen]
  rw [Oper.upon_value]
  go_wp2
  rw [Lib.run_from_unsafe w ⟨b, 0, none⟩ Tryd.underlying113 Tryd.underlying73 hj hsh lies76]
  simp only [Result.andThen]
  rw [Oper.upon_value]
  go_wp2
  go_end0
  exact ⟨rfl, rfl⟩

theorem copyCheck (B b : Nat) (bs : List Value) (w : World) (h : Lib.IsBuilder 76 5 B b bs w) :
    Calls Tryd.prog 72 #[.pointer (some ⟨b, 0, none⟩)] w fun e w' => e = .returned (.tuple #[]) ∧ (Lib.BuilderAt 76 5 B b (.pointer (some ⟨b, 0, none⟩)) bs w' ∧ Below B w w') := by
  rcases h with h | h
  · refine (copyCheck_fresh b w h.cell0 h.shape h.frozen0).mono ?_
    rintro e w' ⟨rfl, rfl⟩
    exact ⟨rfl, h.used _, (Below.refl B w).setCell (p := ⟨b, 0, none⟩) h.1 _⟩
  · refine (copyCheck_used b w h.cell0).mono ?_
    rintro e w' ⟨rfl, rfl⟩
    exact ⟨rfl, h, Below.refl B _⟩

set_option maxHeartbeats 2000000 in
set_option maxRecDepth 100000 in
theorem writeString (B b : Nat) (bs : List Value) (s : ByteArray) (w : World) (h : Lib.IsBuilder 76 5 B b bs w) (hlen : bs.length + s.size ≤ 140737488355328) (hBw : B ≤ w.heap.size) :
    Calls Tryd.prog 63 #[.pointer (some ⟨b, 0, none⟩), .string s] w fun e w' => e = .returned (.tuple #[.int .i64 s.size, .nilIface]) ∧ (Lib.BuilderAt 76 5 B b (.pointer (some ⟨b, 0, none⟩)) (bs ++ Lib.strCells s) w' ∧ Below B w w') := by
  obtain ⟨i0, hi, hz0, hz1, hz2⟩ := info_parts info5
  have e72 : ∀ args w, (callFunc 72 args).run Tryd.prog w = .ok (.enter 72 args) w := enters_of Tryd.func72 (by kernel_rfl) rfl
  go_enter Tryd.func63, Tryd.ntmps63
  go_wp2_with (go_at_call 72; refine (copyCheck B b bs _ h).mono ?_)
  rintro e w1 ⟨rfl, h1, hb1⟩
  obtain ⟨hB, v, hbk, hown, hne⟩ := h1
  have c0 : w1.cell? ⟨b, 0, none⟩ = some (.pointer (some ⟨b, 0, none⟩)) := by rw [Lib.cell_of_heap hbk]; rfl
  have c1 : w1.cell? ⟨b, 1, none⟩ = some v := by rw [Lib.cell_of_heap hbk]; rfl
  go_wp2_with (at_builtin; refine Lib.wpList_append_own_string _ rfl _ _ 74 9 rfl B 5 i0 Tryd.underlying74 Tryd.underlying9 hi hz0 hz1 hz2 _ _ _ rfl hown s rfl ?c3 ?c4 ?c5 ?_)
  case c3 => unfold maxLen; omega
  case c4 => omega
  case c5 => have := hb1.size; omega
  intro v' w2 hown' hgrow _
  have hlt : b < w1.heap.size := by
    rcases Nat.lt_or_ge b w1.heap.size with h' | h'
    · exact h'
    · simp [Array.getElem?_eq_none h'] at hbk
  have hb2 : w2.heap[b]? = some (.cells #[.pointer (some ⟨b, 0, none⟩), v] 76 (0, 0)) := by
    rw [hgrow.block b hlt (fun e => hne e.symm)]
    exact hbk
  have d0 : w2.cell? ⟨b, 0, none⟩ = some (.pointer (some ⟨b, 0, none⟩)) := by rw [Lib.cell_of_heap hb2]; rfl
  have d1 : w2.cell? ⟨b, 1, none⟩ = some v := by rw [Lib.cell_of_heap hb2]; rfl
  have f1 : w2.frozen? ⟨b, 1, none⟩ = false := Lib.frozen_of_heap hb2 1
  obtain ⟨ao, n', cap, rfl⟩ : ∃ ao n' cap, v' = .slice ao n' cap := by
    rcases hown'.2 with ⟨hv, _⟩ | ⟨g, cap, cur, hv, _⟩
    · exact ⟨_, _, _, hv⟩
    · exact ⟨_, _, _, hv⟩
  go_wp2
  go_ret2
  refine ⟨rfl, ?_, ?_⟩
  · exact Lib.BuilderAt.put (T := 76) (e := 5) hB hb2 (bs' := bs ++ Lib.strCells s) (by simpa [Lib.strCells_length] using hown') (by decide)
  · exact (hb1.grown hgrow (by have := hb1.size; omega) (fun k hk => (hown.lt k hk).1)).setCell (p := ⟨b, 1, none⟩) hB _


structure Aside0 (p : Prop) : Prop where mk :: (out : p)
theorem builderAt_below {T e : TypeId} {B b : Nat} {p : Value} {bs : List Value} {W W' : World} (h : Lib.BuilderAt T e B b p bs W) (hb : Below W.heap.size W W') : Lib.BuilderAt T e B b p bs W' := by
  have hlt := h.lt
  obtain ⟨hB, v, hv, hown, hne⟩ := h
  exact ⟨hB, v, (hb.block b hlt).trans hv, hown.kept (row := none) ⟨hb.os, hb.tape, hb.output, hb.size, fun k hk _ => hb.block k hk⟩ (Classical.em _), hne⟩
theorem isBuilder_below {T e : TypeId} {B b : Nat} {bs : List Value} {W W' : World} (h : Lib.IsBuilder T e B b bs W) (hb : Below W.heap.size W W') : Lib.IsBuilder T e B b bs W' :=
  h.elim (fun x => .inl (builderAt_below x hb)) (fun x => .inr (builderAt_below x hb))
/-- The table of Go's library that a number's text reads. -/
def Tab (w : World) : Prop := Lib.TabIs Tryd.prog w "internal/strconv.uint64pow10" .u64 Lib.pow10Tab
theorem Tab.below {w w' : World} (h : Tab w) (hb : Below w.heap.size w w') : Tab w' := Lib.tabBelow_of_tabIs h w' hb

set_option maxHeartbeats 1000000 in
theorem digitText (n : Int) (h0 : -9223372036854775808 ≤ n) (h1 : n ≤ 9223372036854775807) (w : World) (ht : Tab w) :
    Calls Tryd.prog 42 #[.int .i64 n] w fun e w' => e = .returned (.string ⟨(Lib.itoa n).toArray⟩) ∧ Below w.heap.size w w' := by
  go_enter Tryd.func42, Tryd.ntmps42
  go_wp2_with (first | (go_at_call 64; refine (Tryd.strconv_FormatInt_10 n h0 h1 _ ht).mono ?_; rintro e w1 ⟨rfl, k, os, rfl⟩))
  go_ret
  exact ⟨rfl, Lib.below_grow w.heap.size w (Nat.le_refl _) k os⟩

/-- A part of a form's text, written behind what stands there. -/
def partL (bs : List UInt8) (n : Int) (behind : List UInt8) : List UInt8 :=
  (if bs.length = 0 ∧ n < 0 then bs ++ [45] else if 0 < bs.length ∧ n < 0 then bs ++ [32, 45, 32] else if 0 < bs.length then bs ++ [32, 43, 32] else bs) ++ (Lib.decDigits n.natAbs ++ behind)
theorem decDigits_head (u : Nat) : Lib.hasPrefix (Lib.decDigits u) [45] = false := by
  unfold Lib.hasPrefix
  rw [Lib.decDigits_eq]
  have h1 : 1 ≤ Lib.nDigits u := Lib.nDigits_pos u
  obtain ⟨m, hm⟩ : ∃ m, Lib.nDigits u = m + 1 := ⟨Lib.nDigits u - 1, by omega⟩
  rw [hm, List.range_succ_eq_map]
  simp only [List.map_cons, List.isPrefixOf_cons_cons, Bool.and_eq_false_iff]
  left
  unfold Lib.dg
  rw [beq_eq_false_iff_ne]
  intro h
  have := congrArg UInt8.toNat h
  simp at this
  omega
theorem itoa_prefix (n : Int) : Lib.hasPrefix (Lib.itoa n) [45] = decide (n < 0) := by
  unfold Lib.itoa
  by_cases h : n < 0
  · rw [if_pos h, decide_eq_true h]; rfl
  · rw [if_neg h, decide_eq_false h, decDigits_head]
theorem itoa_trim (n : Int) : Lib.trimPrefix (Lib.itoa n) [45] = Lib.decDigits n.natAbs := by
  unfold Lib.trimPrefix
  rw [itoa_prefix]
  by_cases h : n < 0
  · rw [decide_eq_true h, if_pos rfl]
    unfold Lib.itoa
    rw [if_pos h]; rfl
  · rw [decide_eq_false h, if_neg (by simp)]
    unfold Lib.itoa
    rw [if_neg h, show n.toNat = n.natAbs by omega]

theorem cells_cat (a : List UInt8) (s : ByteArray) : Lib.strCells (⟨a.toArray⟩ ++ s) = Lib.byteCells (a ++ s.data.toList) := by
  rw [Lib.strCells_eq]
  congr 1
theorem partL_cells (bs : List UInt8) (n : Int) (s : ByteArray) (pre : List UInt8) (h : (if bs.length = 0 ∧ n < 0 then bs ++ [45] else if 0 < bs.length ∧ n < 0 then bs ++ [32, 45, 32] else if 0 < bs.length then bs ++ [32, 43, 32] else bs) = bs ++ pre) :
    Lib.byteCells bs ++ Lib.byteCells pre ++ Lib.strCells (⟨(Lib.trimPrefix (Lib.itoa n) [45]).toArray⟩ ++ s) = Lib.byteCells (partL bs n s.data.toList) := by
  unfold partL
  rw [h, cells_cat, itoa_trim, ← Lib.byteCells_append, ← Lib.byteCells_append]
theorem partL_cells0 (bs : List UInt8) (n : Int) (s : ByteArray) (h : (if bs.length = 0 ∧ n < 0 then bs ++ [45] else if 0 < bs.length ∧ n < 0 then bs ++ [32, 45, 32] else if 0 < bs.length then bs ++ [32, 43, 32] else bs) = bs) :
    Lib.byteCells bs ++ Lib.strCells (⟨(Lib.trimPrefix (Lib.itoa n) [45]).toArray⟩ ++ s) = Lib.byteCells (partL bs n s.data.toList) := by
  unfold partL
  rw [h, cells_cat, itoa_trim, ← Lib.byteCells_append]
theorem sz1 : (⟨#[45]⟩ : ByteArray).size = 1 := rfl
theorem sz3a : (⟨#[32, 45, 32]⟩ : ByteArray).size = 3 := rfl
theorem sz3b : (⟨#[32, 43, 32]⟩ : ByteArray).size = 3 := rfl
set_option maxHeartbeats 4000000 in
set_option maxRecDepth 100000 in
theorem part (B b : Nat) (bs : List UInt8) (n : Int) (s : ByteArray) (w : World) (h0 : -9223372036854775808 ≤ n) (h1 : n ≤ 9223372036854775807) (h : Lib.IsBuilder 76 5 B b (Lib.byteCells bs) w) (hB : B ≤ w.heap.size)
    (hlen : bs.length + s.size ≤ 1000000) (ht : Tab w) :
    Calls Tryd.prog 41 #[.pointer (some ⟨b, 0, none⟩), .int .i64 n, .string s] w fun e w' => e = .returned (.tuple #[]) ∧ Lib.IsBuilder 76 5 B b (Lib.byteCells (partL bs n s.data.toList)) w' ∧ Below B w w' := by
  have hdl : (Lib.decDigits n.natAbs).length ≤ 21 := by
    have := Lib.itoa_length_le n h0 h1
    unfold Lib.itoa at this
    split at this
    · simp at this; omega
    · rw [show n.toNat = n.natAbs by omega] at this; exact this
  have hts : (⟨(Lib.trimPrefix (Lib.itoa n) [45]).toArray⟩ : ByteArray).size ≤ 21 := by rw [itoa_trim]; exact hdl
  have hcat : (⟨(Lib.trimPrefix (Lib.itoa n) [45]).toArray⟩ : ByteArray).size + s.size ≤ 9223372036854775807 := by omega
  have HP := itoa_prefix n
  have HH := Aside0.mk h
  have HT := Aside0.mk ht
  have HB := Aside0.mk (Below.refl B w)
  clear h ht
  go_enter Tryd.func41, Tryd.ntmps41
  go_wp2_with (first
    | (go_at_call 42; refine (digitText n h0 h1 _ HT.out).mono ?_; rintro e w1 ⟨rfl, hb⟩; have n0_ := Aside0.mk (isBuilder_below HH.out hb); have n1_ := Aside0.mk (HB.out.trans (hb.mono hB)); clear HH HB hb; have HH := n0_; have HB := n1_; clear n0_ n1_)
    | (go_at_call 62; refine (Tryd.strings_CutPrefix _ _ _).mono ?_; rintro e w2 ⟨rfl, rfl⟩)
    | (go_at_call 43; refine (Tryd.Builder_Len B b (Lib.byteCells bs) _ HH.out).mono ?_; rintro e w2 ⟨rfl, rfl⟩)
    | (go_at_call 63; go_loud (refine (writeString B b _ _ _ HH.out ?hl (Nat.le_trans hB HB.out.size)).mono ?_; (case hl => simp only [List.length_append, Lib.byteCells_length, Lib.strCells_length, ByteArray.size_append, sz1, sz3a, sz3b]; omega); rintro e w3 ⟨rfl, hh, hb⟩; have n0_ := Aside0.mk (show Lib.IsBuilder 76 5 B b _ w3 from Or.inr hh); have n1_ := Aside0.mk (HB.out.trans hb); clear HH HB hb hh; have HH := n0_; have HB := n1_; clear n0_ n1_)))
  all_goals (
    have q := HH.out
    have c0 : Lib.byteCells bs = [] ↔ bs.length = 0 := by rw [← Lib.byteCells_length bs]; exact List.length_eq_zero_iff.symm
    have c1 := Lib.byteCells_length bs
    go_end0
    refine ⟨rfl, ?_, HB.out⟩
    simp only [c0, c1] at *
    first
      | (refine (partL_cells bs n s [45] ?_) ▸ q; rw [if_pos ⟨by omega, by omega⟩]; done)
      | (refine (partL_cells bs n s [32, 45, 32] ?_) ▸ q; rw [if_neg (by omega), if_pos ⟨by omega, by omega⟩]; done)
      | (refine (partL_cells bs n s [32, 43, 32] ?_) ▸ q; rw [if_neg (by omega), if_neg (by omega), if_pos (by omega)]; done)
      | (refine (partL_cells0 bs n s ?_) ▸ q; rw [if_neg (by omega), if_neg (by omega), if_neg (by omega)]; done))
theorem partL_len (bs : List UInt8) (n : Int) (h0 : -9223372036854775808 ≤ n) (h1 : n ≤ 9223372036854775807) (s : List UInt8) : (partL bs n s).length ≤ bs.length + 24 + s.length := by
  have hdl : (Lib.decDigits n.natAbs).length ≤ 21 := by
    have := Lib.itoa_length_le n h0 h1
    unfold Lib.itoa at this
    split at this
    · simp at this; omega
    · rw [show n.toNat = n.natAbs by omega] at this; exact this
  unfold partL
  rw [List.length_append, List.length_append]
  split
  · simp; omega
  · split
    · simp; omega
    · split
      · simp; omega
      · omega
/-- The table stands, found by instances. -/
class TabI (w : World) : Prop where out : Tab w
end Go.Proofs.YtmedciidghmkkaaDoor.Txt
