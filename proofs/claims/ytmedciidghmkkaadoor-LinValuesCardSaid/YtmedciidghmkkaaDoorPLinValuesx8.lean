/- The law LinValues walked: what it answers, out of what its callees come to. Written by a program of this session; no condition but what stands in each theorem. -/
import Derived.Test.YtmedciidghmkkaaDoorPLinValuesx
namespace Go.Proofs.YtmedciidghmkkaaDoor.PLinValues
open Go.RowKit Go.Proofs.YtmedciidghmkkaaDoorW.PrintWords Go.Proofs.YtmedciidghmkkaaDoorW.PrintLast Go.Proofs.YtmedciidghmkkaaDoorW.PrintMore
attribute [local go_sem] max2_int min2_int max_two min_two max_three min_three max_four min_four
set_option linter.unusedVariables false
set_option linter.unusedSimpArgs false
theorem heap28 : Kd.Heap k28 := Kd.heap_iso _ (Kd.heap_pair (Kd.heap_int .i64) (Kd.heap_slice 51 (Kd.heap_iso _ (Kd.heap_pair (Kd.heap_int .i64) (Kd.heap_int .i64)))))
/-- Two forms in one block, read as a row. -/
theorem C_forms {W : World} {g : Nat} {t : TypeId} {K1 K2 : Int} {l1 l2 : List S51} {A1 A2 : Option Addr} {c1 c2 : Nat} (hb : W.heap[g]? = some (.cells #[.int .i64 K1, .slice A1 l1.length c1, .int .i64 K2, .slice A2 l2.length c2] t (0, 0)))
    (h1 : l1.length ≤ c1) (h2 : l2.length ≤ c2) (g1 : Kd.C k51 W A1 l1.length l1) (g2 : Kd.C k51 W A2 l2.length l2) : Kd.C k28 W (some ⟨g, 0, none⟩) 2 [(⟨K1, l1⟩ : S28), ⟨K2, l2⟩] := by
  refine ⟨rfl, by decide, fun _ => ⟨⟨g, 0, none⟩, rfl, ?_⟩⟩
  intro j p hp
  match j, hp with
  | 0, hp =>
    obtain rfl := Option.some.inj hp
    refine ⟨_, rfl, k28_mk W _ h1 g1, ?_⟩
    intro i u hu
    match i, hu with
    | 0, hu => obtain rfl := Option.some.inj hu; exact (blk_cell hb 0).trans rfl
    | 1, hu => obtain rfl := Option.some.inj hu; exact (blk_cell hb 1).trans rfl
    | i + 2, hu => simp at hu
  | 1, hp =>
    obtain rfl := Option.some.inj hp
    refine ⟨_, rfl, k28_mk W _ h2 g2, ?_⟩
    intro i u hu
    match i, hu with
    | 0, hu => obtain rfl := Option.some.inj hu; exact (blk_cell hb 2).trans rfl
    | 1, hu => obtain rfl := Option.some.inj hu; exact (blk_cell hb 3).trans rfl
    | i + 2, hu => simp at hu
  | j + 2, hp => simp at hp
theorem C_pair {W : World} {g : Nat} {t : TypeId} {a b : Int} (hb : W.heap[g]? = some (.cells #[.int .i64 a, .int .i64 b] t (0, 0))) : Kd.C (Kd.int .i64) W (some ⟨g, 0, none⟩) 2 [a, b] := by
  refine ⟨rfl, by decide, fun _ => ⟨⟨g, 0, none⟩, rfl, ?_⟩⟩
  intro j p hp
  match j, hp with
  | 0, hp =>
    obtain rfl := Option.some.inj hp
    refine ⟨[.int .i64 _], rfl, rfl, ?_⟩
    intro i u hu
    match i, hu with
    | 0, hu => obtain rfl := Option.some.inj hu; exact (blk_cell hb 0).trans rfl
    | i + 1, hu => simp at hu
  | 1, hp =>
    obtain rfl := Option.some.inj hp
    refine ⟨[.int .i64 _], rfl, rfl, ?_⟩
    intro i u hu
    match i, hu with
    | 0, hu => obtain rfl := Option.some.inj hu; exact (blk_cell hb 1).trans rfl
    | i + 1, hu => simp at hu
  | j + 2, hp => simp at hp
theorem mul_bd {a b : Int} (h1 : -1099511627776 ≤ a) (h2 : a ≤ 1099511627776) (h3 : -1048576 ≤ b) (h4 : b ≤ 1048576) : -1152921504606846976 ≤ a * b ∧ a * b ≤ 1152921504606846976 := by
  have h := Nat.mul_le_mul (show a.natAbs ≤ 1099511627776 by omega) (show b.natAbs ≤ 1048576 by omega)
  rw [← Int.natAbs_mul] at h
  omega
theorem wmul {a b : Int} (h1 : -1099511627776 ≤ a) (h2 : a ≤ 1099511627776) (h3 : -1048576 ≤ b) (h4 : b ≤ 1048576) : wrap64 (a * b) = a * b := by
  have := mul_bd h1 h2 h3 h4
  generalize a * b = p at *
  unfold wrap64; omega
theorem wadd {a b c d : Int} (h1 : -1099511627776 ≤ a) (h2 : a ≤ 1099511627776) (h3 : -1048576 ≤ b) (h4 : b ≤ 1048576) (k1 : -1099511627776 ≤ c) (k2 : c ≤ 1099511627776) (k3 : -1048576 ≤ d) (k4 : d ≤ 1048576) : wrap64 (a * b + c * d) = a * b + c * d := by
  have := mul_bd h1 h2 h3 h4
  have := mul_bd k1 k2 k3 k4
  generalize a * b = p at *
  generalize c * d = q at *
  unfold wrap64; omega
/-- What is told of the two values, the sum and its value. -/
structure LV (K1 : Int) (l1 : List S51) (K2 : Int) (l2 : List S51) (b0 b1 : Int) (x : List Int) : Prop where
  out : ∃ (a e b f sK : Int) (sl : List S51) (g n h r : Int) (k1 k2 k3 k4 k5 : Nat), lin_Eval.f k1 K1 l1 x = some (a, e) ∧ lin_Eval.f k2 K2 l2 x = some (b, f) ∧ lin_Sum.f k3 [⟨K1, l1⟩, ⟨K2, l2⟩] [b0, b1] = some (sK, sl, g) ∧
    lin_Eval.f k4 sK sl x = some (n, h) ∧ lin_Right.f k5 sK sl = some r ∧ (e = 0 → f = 0 → g = 0 → a ≤ 1099511627776 → b ≤ 1099511627776 → -1099511627776 ≤ a → -1099511627776 ≤ b → -1048576 ≤ b0 → b0 ≤ 1048576 → -1048576 ≤ b1 → b1 ≤ 1048576 → h = 0 ∧ r = 0 ∧ n = a * b0 + b * b1)
set_option maxHeartbeats 8000000 in
set_option maxRecDepth 100000 in
theorem LinValues_walk (K1 : Int) (A1 : Option Addr) (c1 : Nat) (l1 : List S51) (K2 : Int) (A2 : Option Addr) (c2 : Nat) (l2 : List S51) (b0 b1 : Int) (Ax : Option Addr) (cx : Nat) (x : List Int) (w : World) [ti_ : Txt.TabI w]
    (hC1 : Kd.C k51 w A1 l1.length l1) (hc1 : l1.length ≤ c1) (hC2 : Kd.C k51 w A2 l2.length l2) (hc2 : l2.length ≤ c2) (hCx : Kd.C (Kd.int .i64) w Ax x.length x) (hcx : x.length ≤ cx)
    (ka : Nat) (halive : sequiturlaw27_alive.f ka = some true) (kl : Nat) (tl : Bool) (hlong : sequiturref27_Long.f kl [⟨K1, l1⟩, ⟨K2, l2⟩] 2 = some tl)
    (hfin : tl = false → ¬ (x.length : Int) > 80 → LV K1 l1 K2 l2 b0 b1 x) :
    Calls Tryd.prog 5 #[.agg #[.int .i64 K1, .slice A1 l1.length c1, .int .i64 K2, .slice A2 l2.length c2], .agg #[.int .i64 b0, .int .i64 b1], .slice Ax x.length cx] w fun e w' => e = .returned (.bool true) ∧ Below w.heap.size w w' := by
  have hu28 := Tryd.underlying28
  have hu39 := Tryd.underlying39
  have hu34 := Tryd.underlying34
  have H1 := Aside0.mk hC1
  have H2 := Aside0.mk hC2
  have HX := Aside0.mk hCx
  have G1 := Aside0.mk hc1
  have G2 := Aside0.mk hc2
  have GX := Aside0.mk hcx
  have HA := Aside0.mk halive
  have HL := Aside0.mk hlong
  have HF := Aside0.mk hfin
  clear hC1 hC2 hCx hc1 hc2 hcx halive hlong hfin
  cases tl
  case true =>
    go_enter Tryd.func5, Tryd.ntmps5
    go_wp2_with (first
      | ((with_reducible refine gate_dst (N := 3) rfl ?_); refine box_event ?hg (N := 3) ?hd (cs := #[.int .i64 K1, .slice A1 l1.length c1, .int .i64 K2, .slice A2 l2.length c2]) (t := 39) ?hr ?_; (case hd => rfl); (case hg => rfl); (case hr => first | (go_simp; done) | (go_simp; rfl)); intro gL hg w1 hbox hb; have EL := Aside0.mk hg; have BL := Aside0.mk hbox; have HB := Aside0.mk hb; clear hg hbox hb)
      | ((with_reducible refine gate_dst (N := 4) rfl ?_); refine box_event ?hg (N := 4) ?hd (cs := #[.int .i64 b0, .int .i64 b1]) (t := 34) ?hr ?_; (case hd => rfl); (case hg => rfl); (case hr => first | (go_simp; done) | (go_simp; rfl)); intro gB hg w2 hbox hb; have EB := Aside0.mk hg; have BB := Aside0.mk hbox; replace BL := Aside0.mk (blk_below BL.out hb); have HB2 := Aside0.mk (below_step HB.out hb); clear hg hbox hb HB)
      | (go_at_call 8; refine (sequiturlaw27_alive.calls ka true _ (ti_ := ⟨Txt.Tab.below ti_.out HB2.out⟩) HA.out).mono ?_; rintro e w3 ⟨rfl, hb⟩; replace BL := Aside0.mk (blk_below BL.out hb); replace BB := Aside0.mk (blk_below BB.out hb); have HB3 := Aside0.mk (below_step HB2.out hb); clear hb HB2)
      | (go_at_call 9; refine (sequiturref27_Long.calls kl _ _ [⟨K1, l1⟩, ⟨K2, l2⟩] 2 _ _ (C_forms BL.out G1.out G2.out (Kd.C_below H1.out HB3.out) (Kd.C_below H2.out HB3.out)) (Nat.le_refl 2) HL.out).mono ?_; rintro e w4 ⟨rfl, ⟨nd, rfl⟩⟩; generalize hW : w3.drewN nd = W; replace BL := Aside0.mk (show W.heap[gL]? = _ from hW ▸ blk_drewN BL.out nd); replace BB := Aside0.mk (show W.heap[gB]? = _ from hW ▸ blk_drewN BB.out nd); replace HB3 := Aside0.mk (show Below w.heap.size w W from hW ▸ pw_below_drewN HB3.out nd); clear hW; have hb0 : W.cell? ⟨gB, 0, none⟩ = some (.int .i64 b0) := (blk_cell BB.out 0).trans rfl; have hb1 : W.cell? ⟨gB, 1, none⟩ = some (.int .i64 b1) := (blk_cell BB.out 1).trans rfl))
    go_ret
    exact ⟨rfl, HB3.out⟩
  case false =>
   by_cases h80 : (x.length : Int) > 80
   · have c80 : decide (80 < (x.length : Int)) = true := decide_eq_true h80
     have c81 : decide (80 < x.length) = true := decide_eq_true (by omega)
     clear h80
     go_enter Tryd.func5, Tryd.ntmps5
     go_wp2_with (first
       | ((with_reducible refine gate_dst (N := 3) rfl ?_); refine box_event ?hg (N := 3) ?hd (cs := #[.int .i64 K1, .slice A1 l1.length c1, .int .i64 K2, .slice A2 l2.length c2]) (t := 39) ?hr ?_; (case hd => rfl); (case hg => rfl); (case hr => first | (go_simp; done) | (go_simp; rfl)); intro gL hg w1 hbox hb; have EL := Aside0.mk hg; have BL := Aside0.mk hbox; have HB := Aside0.mk hb; clear hg hbox hb)
       | ((with_reducible refine gate_dst (N := 4) rfl ?_); refine box_event ?hg (N := 4) ?hd (cs := #[.int .i64 b0, .int .i64 b1]) (t := 34) ?hr ?_; (case hd => rfl); (case hg => rfl); (case hr => first | (go_simp; done) | (go_simp; rfl)); intro gB hg w2 hbox hb; have EB := Aside0.mk hg; have BB := Aside0.mk hbox; replace BL := Aside0.mk (blk_below BL.out hb); have HB2 := Aside0.mk (below_step HB.out hb); clear hg hbox hb HB)
       | (go_at_call 8; refine (sequiturlaw27_alive.calls ka true _ (ti_ := ⟨Txt.Tab.below ti_.out HB2.out⟩) HA.out).mono ?_; rintro e w3 ⟨rfl, hb⟩; replace BL := Aside0.mk (blk_below BL.out hb); replace BB := Aside0.mk (blk_below BB.out hb); have HB3 := Aside0.mk (below_step HB2.out hb); clear hb HB2)
       | (go_at_call 9; refine (sequiturref27_Long.calls kl _ _ [⟨K1, l1⟩, ⟨K2, l2⟩] 2 _ _ (C_forms BL.out G1.out G2.out (Kd.C_below H1.out HB3.out) (Kd.C_below H2.out HB3.out)) (Nat.le_refl 2) HL.out).mono ?_; rintro e w4 ⟨rfl, ⟨nd, rfl⟩⟩; generalize hW : w3.drewN nd = W; replace BL := Aside0.mk (show W.heap[gL]? = _ from hW ▸ blk_drewN BL.out nd); replace BB := Aside0.mk (show W.heap[gB]? = _ from hW ▸ blk_drewN BB.out nd); replace HB3 := Aside0.mk (show Below w.heap.size w W from hW ▸ pw_below_drewN HB3.out nd); clear hW; have hb0 : W.cell? ⟨gB, 0, none⟩ = some (.int .i64 b0) := (blk_cell BB.out 0).trans rfl; have hb1 : W.cell? ⟨gB, 1, none⟩ = some (.int .i64 b1) := (blk_cell BB.out 1).trans rfl))
     go_ret
     exact ⟨rfl, HB3.out⟩
   · have c80 : decide (80 < (x.length : Int)) = false := decide_eq_false h80
     have c81 : decide (80 < x.length) = false := decide_eq_false (by omega)
     have H80 := Aside0.mk h80
     clear h80
     go_enter Tryd.func5, Tryd.ntmps5
     go_wp2_with (first
       | ((with_reducible refine gate_dst (N := 3) rfl ?_); refine box_event ?hg (N := 3) ?hd (cs := #[.int .i64 K1, .slice A1 l1.length c1, .int .i64 K2, .slice A2 l2.length c2]) (t := 39) ?hr ?_; (case hd => rfl); (case hg => rfl); (case hr => first | (go_simp; done) | (go_simp; rfl)); intro gL hg w1 hbox hb; have EL := Aside0.mk hg; have BL := Aside0.mk hbox; have HB := Aside0.mk hb; clear hg hbox hb)
       | ((with_reducible refine gate_dst (N := 4) rfl ?_); refine box_event ?hg (N := 4) ?hd (cs := #[.int .i64 b0, .int .i64 b1]) (t := 34) ?hr ?_; (case hd => rfl); (case hg => rfl); (case hr => first | (go_simp; done) | (go_simp; rfl)); intro gB hg w2 hbox hb; have EB := Aside0.mk hg; have BB := Aside0.mk hbox; replace BL := Aside0.mk (blk_below BL.out hb); have HB2 := Aside0.mk (below_step HB.out hb); clear hg hbox hb HB)
       | (go_at_call 8; refine (sequiturlaw27_alive.calls ka true _ (ti_ := ⟨Txt.Tab.below ti_.out HB2.out⟩) HA.out).mono ?_; rintro e w3 ⟨rfl, hb⟩; replace BL := Aside0.mk (blk_below BL.out hb); replace BB := Aside0.mk (blk_below BB.out hb); have HB3 := Aside0.mk (below_step HB2.out hb); clear hb HB2)
       | (go_at_call 9; refine (sequiturref27_Long.calls kl _ _ [⟨K1, l1⟩, ⟨K2, l2⟩] 2 _ _ (C_forms BL.out G1.out G2.out (Kd.C_below H1.out HB3.out) (Kd.C_below H2.out HB3.out)) (Nat.le_refl 2) HL.out).mono ?_; rintro e w4 ⟨rfl, ⟨nd, rfl⟩⟩; generalize hW : w3.drewN nd = W; replace BL := Aside0.mk (show W.heap[gL]? = _ from hW ▸ blk_drewN BL.out nd); replace BB := Aside0.mk (show W.heap[gB]? = _ from hW ▸ blk_drewN BB.out nd); replace HB3 := Aside0.mk (show Below w.heap.size w W from hW ▸ pw_below_drewN HB3.out nd); clear hW; have hb0 : W.cell? ⟨gB, 0, none⟩ = some (.int .i64 b0) := (blk_cell BB.out 0).trans rfl; have hb1 : W.cell? ⟨gB, 1, none⟩ = some (.int .i64 b1) := (blk_cell BB.out 1).trans rfl))
     all_goals
       go_loopg [7, 40] x.length (fun g v7 v40 w' => ∃ (m y : Int), v7 = .int .i64 m ∧ v40 = .int .i64 y ∧ Aside0 (b0 ≤ m ∧ b1 ≤ m ∧ ∃ j : Nat, y = j ∧ j + g = x.length) ∧ Aside0 (w'.heap[gL]? = some (.cells #[.int .i64 K1, .slice A1 l1.length c1, .int .i64 K2, .slice A2 l2.length c2] 39 (0, 0))) ∧ Aside0 (w'.heap[gB]? = some (.cells #[.int .i64 b0, .int .i64 b1] 34 (0, 0))) ∧ Aside0 (Below w.heap.size w w'))
       case atStart => exact ⟨_, 0, rfl, rfl, ⟨by (repeat' split) <;> omega, by (repeat' split) <;> omega, 0, rfl, by omega⟩, BL, BB, HB3⟩
       case round =>
         clear BL BB HB3 hb0 hb1
         obtain ⟨m, y, rfl, rfl, HM, BL, BB, HB⟩ := hrel
         cases gk with
         | zero =>
           have cc2 : decide (y < (x.length : Int)) = false := decide_eq_false (by obtain ⟨_, _, j, h1, h2⟩ := HM.out; omega)
           have hb0 : wr.cell? ⟨gB, 0, none⟩ = some (.int .i64 b0) := (blk_cell BB.out 0).trans rfl
           have hb1 : wr.cell? ⟨gB, 1, none⟩ = some (.int .i64 b1) := (blk_cell BB.out 1).trans rfl
           have HFF := HF.out (by first | trivial | rfl) H80.out
           obtain ⟨a, e, b, f, sK, sl, g, n, h, r, k1, k2, k3, k4, k5, q1, q2, q3, q4, q5, q6⟩ := HFF.out
           have E1 := Aside0.mk q1
           have E2 := Aside0.mk q2
           have E3 := Aside0.mk q3
           have E4 := Aside0.mk q4
           have E5 := Aside0.mk q5
           have E6 := Aside0.mk q6
           clear q1 q2 q3 q4 q5 q6 HFF
           have hl0 : wr.cell? ⟨gL, 0, none⟩ = some (.int .i64 K1) := (blk_cell BL.out 0).trans rfl
           have hl1 : wr.cell? ⟨gL, 1, none⟩ = some (.slice A1 l1.length c1) := (blk_cell BL.out 1).trans rfl
           go_wp2_with (first
             | (go_at_call 17; (with_reducible refine (lin_Eval.calls k1 K1 _ _ l1 _ _ x a e _ (Kd.C_below H1.out HB.out) G1.out (Kd.C_below HX.out HB.out) GX.out E1.out).mono ?_); rintro e5 w5 ⟨rfl, hb⟩; replace BL := Aside0.mk (blk_below BL.out hb); replace BB := Aside0.mk (blk_below BB.out hb); have HB5 := Aside0.mk (below_step HB.out hb); clear hb HB hl0 hl1 hb0 hb1; have hl2 : w5.cell? ⟨gL, 2, none⟩ = some (.int .i64 K2) := (blk_cell BL.out 2).trans rfl; have hl3 : w5.cell? ⟨gL, 3, none⟩ = some (.slice A2 l2.length c2) := (blk_cell BL.out 3).trans rfl)
             | (go_at_call 17; (with_reducible refine (lin_Eval.calls k2 K2 _ _ l2 _ _ x b f _ (Kd.C_below H2.out HB5.out) G2.out (Kd.C_below HX.out HB5.out) GX.out E2.out).mono ?_); rintro e6 w6 ⟨rfl, hb⟩; replace BL := Aside0.mk (blk_below BL.out hb); replace BB := Aside0.mk (blk_below BB.out hb); have HB6 := Aside0.mk (below_step HB5.out hb); clear hb HB5 hl2 hl3))
           all_goals try (go_ret; exact ⟨rfl, HB.out⟩)
           all_goals
             go_region_with (first
               | (go_at_call 10; (refine (lin_Sum.calls k3 (fun k_ => k_ < _) _ _ [⟨K1, l1⟩, ⟨K2, l2⟩] _ _ [b0, b1] sK sl g w6.drew (Kd.V_mk (Nat.le_refl 2) (Kd.F_below (Kd.C_F heap28 (C_forms (blk_drew BL.out) G1.out G2.out (Kd.C_below H1.out (below_drew1 HB6.out)) (Kd.C_below H2.out (below_drew1 HB6.out)))) (Below.refl _ _))) (C_pair (blk_drew BB.out)) (Nat.le_refl 2) E3.out).mono ?_); rintro e7 w7 ⟨v1, rfl, ho, hb⟩; obtain ⟨Ao, co, eo⟩ := Kd.R_slice ho; subst eo; have HO := Aside0.mk (Kd.R_lower (Kd.R_mono ho (fun _ hk => Nat.le_trans (below_size (below_drew1 HB6.out)) hk)) (below_size (below_drew1 HB6.out))); clear ho; have BL7 := Aside0.mk (blk_below (blk_drew BL.out) hb); have BB7 := Aside0.mk (blk_below (blk_drew BB.out) hb); have HB7 := Aside0.mk (below_step (below_drew1 HB6.out) hb); have FIRST := Aside0.mk trivial; clear hb)
               | (go_at_call 10; (refine (lin_Sum.calls k3 (fun k_ => k_ < _) _ _ [⟨K1, l1⟩, ⟨K2, l2⟩] _ _ [b0, b1] sK sl g (w6.alloc (.cells #[.int .i64 0, .slice none 0 0] 28)).drew (Kd.V_mk (Nat.le_refl 2) (Kd.F_below (Kd.C_F heap28 (C_forms (blk_drew (blk_alloc BL.out _)) G1.out G2.out (Kd.C_below H1.out (below_drew1 (below_alloc HB6.out _))) (Kd.C_below H2.out (below_drew1 (below_alloc HB6.out _))))) (Below.refl _ _))) (C_pair (blk_drew (blk_alloc BB.out _))) (Nat.le_refl 2) E3.out).mono ?_); rintro e7 w7 ⟨v1, rfl, ho, hb⟩; obtain ⟨Ao, co, eo⟩ := Kd.R_slice ho; subst eo; have HO := Aside0.mk (Kd.R_lower (Kd.R_mono ho (fun _ hk => Nat.le_trans (below_size (below_drew1 (below_alloc HB6.out _))) hk)) (below_size (below_drew1 (below_alloc HB6.out _)))); clear ho; have BL7 := Aside0.mk (blk_below (blk_drew (blk_alloc BL.out _)) hb); have BB7 := Aside0.mk (blk_below (blk_drew (blk_alloc BB.out _)) hb); have HB7 := Aside0.mk (below_step (below_drew1 (below_alloc HB6.out _)) hb); have BS := Aside0.mk (blk_below (blk_drew (show (w6.alloc (.cells #[.int .i64 0, .slice none 0 0] 28)).heap[w6.heap.size]? = some (.cells #[.int .i64 0, .slice none 0 0] 28 (0, 0)) by simpa using heap_alloc_new w6 _)) hb); have hz0 : w7.cell? ⟨w6.heap.size, 0, none⟩ = some (.int .i64 0) := (blk_cell BS.out 0).trans rfl; have hz1 : w7.cell? ⟨w6.heap.size, 1, none⟩ = some (.slice none 0 0) := (blk_cell BS.out 1).trans rfl; have fz0 := blk_frozen BS.out 0; have fz1 := blk_frozen BS.out 1; clear hb))
           all_goals first
             | (have FF := FIRST.out
                have BS9 := Aside0.mk (show (w7.alloc (.cells #[.int .i64 sK, .slice Ao sl.length co] 28)).heap[w7.heap.size]? = some (.cells #[.int .i64 sK, .slice Ao sl.length co] 28 (0, 0)) by simpa using heap_alloc_new w7 _)
                have BB9 := Aside0.mk (blk_alloc BB7.out (.cells #[.int .i64 sK, .slice Ao sl.length co] 28))
                have HB9 := Aside0.mk (below_alloc HB7.out (.cells #[.int .i64 sK, .slice Ao sl.length co] 28))
                have HO9 := Aside0.mk (Kd.R_alloc HO.out (.cells #[.int .i64 sK, .slice Ao sl.length co] 28))
                clear BB7 HB7 HO BL7
                generalize w7.alloc (.cells #[.int .i64 sK, .slice Ao sl.length co] 28) = W9 at BS9 BB9 HB9 HO9 ⊢
                generalize w7.heap.size = gS at BS9 ⊢)
             | (have GS := Aside0.mk (show w.heap.size ≤ w6.heap.size from below_size HB6.out)
                have NBS := Aside0.mk (show gB ≠ w6.heap.size from Nat.ne_of_lt (blk_lt BB.out))
                have BS9 := Aside0.mk (blk_put (cs' := #[.int .i64 sK, .slice Ao sl.length co]) (blk_put (cs' := #[.int .i64 sK, .slice none 0 0]) BS.out 0 (.int .i64 sK) rfl) 1 (.slice Ao sl.length co) rfl)
                have BB9 := Aside0.mk (blk_far (blk_far BB7.out (p := ⟨w6.heap.size, 0, none⟩) NBS.out (.int .i64 sK)) (p := ⟨w6.heap.size, 1, none⟩) NBS.out (.slice Ao sl.length co))
                have HB9 := Aside0.mk (below_set (below_set (j := 0) (v := .int .i64 sK) HB7.out GS.out) (j := 1) (v := .slice Ao sl.length co) GS.out)
                have HO9 := Aside0.mk (Kd.R_far (p := ⟨w6.heap.size, 1, none⟩) (Kd.R_far (p := ⟨w6.heap.size, 0, none⟩) (Kd.R_types HO.out BS.out (by decide)) (fun _ hk => hk.2) (.int .i64 sK)) (fun _ hk => hk.2) (.slice Ao sl.length co))
                clear BB7 HB7 HO BL7 BS hz0 hz1 fz0 fz1
                generalize (w7.setCell ⟨w6.heap.size, 0, none⟩ (.int .i64 sK)).setCell ⟨w6.heap.size, 1, none⟩ (.slice Ao sl.length co) = W9 at BS9 BB9 HB9 HO9 ⊢
                generalize w6.heap.size = gS at BS9 ⊢)
           all_goals
             have hs0 : W9.cell? ⟨gS, 0, none⟩ = some (.int .i64 sK) := (blk_cell BS9.out 0).trans rfl
             have hs1 : W9.cell? ⟨gS, 1, none⟩ = some (.slice Ao sl.length co) := (blk_cell BS9.out 1).trans rfl
             go_wp2_with (first
               | (go_at_call 17; (obtain ⟨rfl, rfl, rfl⟩ := E6.out (by omega) (by omega) (by omega) (by omega) (by omega) (by omega) (by omega) (by omega) (by have := HM.out; omega) (by omega) (by have := HM.out; omega)); have w1_ : wrap64 (a * b0) = a * b0 := wmul (by omega) (by omega) (by omega) (by have := HM.out; omega); have w2_ : wrap64 (b * b1) = b * b1 := wmul (by omega) (by omega) (by omega) (by have := HM.out; omega); have w3_ : wrap64 (a * b0 + b * b1) = a * b0 + b * b1 := wadd (by omega) (by omega) (by omega) (by have := HM.out; omega) (by omega) (by omega) (by omega) (by have := HM.out; omega); have WW := Aside0.mk (And.intro w1_ (And.intro w2_ w3_)); clear w1_ w2_ w3_; (refine (lin_Eval.calls k4 sK _ _ sl _ _ x (a * b0 + b * b1) 0 _ (Kd.R_reads' HO9.out).2.2 (Kd.R_reads' HO9.out).2.1 (Kd.C_below HX.out HB9.out) GX.out E4.out).mono ?_); rintro e10 w10 ⟨rfl, hb⟩; replace BS9 := Aside0.mk (blk_below BS9.out hb); replace BB9 := Aside0.mk (blk_below BB9.out hb); have HO10 := Aside0.mk (Kd.R_below HO9.out hb); have HB10 := Aside0.mk (below_step HB9.out hb); clear hb hs0 hs1; have hs0 : w10.cell? ⟨gS, 0, none⟩ = some (.int .i64 sK) := (blk_cell BS9.out 0).trans rfl; have hs1 : w10.cell? ⟨gS, 1, none⟩ = some (.slice Ao sl.length co) := (blk_cell BS9.out 1).trans rfl; have hb0 : w10.cell? ⟨gB, 0, none⟩ = some (.int .i64 b0) := (blk_cell BB9.out 0).trans rfl; have hb1 : w10.cell? ⟨gB, 1, none⟩ = some (.int .i64 b1) := (blk_cell BB9.out 1).trans rfl; obtain ⟨w1_, w2_, w3_⟩ := WW.out)
               | (go_at_call 18; (refine (lin_Right.calls k5 sK _ _ sl 0 _ (Kd.R_reads' HO10.out).2.2 (Kd.R_reads' HO10.out).2.1 E5.out).mono ?_); rintro e11 w11 ⟨rfl, hb⟩; have HB11 := Aside0.mk (below_step HB10.out hb); clear hb))
           all_goals first
             | (go_ret; exact ⟨rfl, HB9.out⟩)
             | (go_ret; exact ⟨by first | rfl | (simp; done) | (simp [*]; done), HB11.out⟩)
         | succ gki =>
           have p2 : 0 ≤ y := by obtain ⟨_, _, j, h1, h2⟩ := HM.out; omega
           have q2 : y < (x.length : Int) := by obtain ⟨_, _, j, h1, h2⟩ := HM.out; omega
           obtain ⟨ad2, e2, hm0⟩ := Kd.at_int HX.out y p2 q2
           cases e2
           replace hm0 := (HB.out.cell (World.block_lt_of_cell? w _ hm0)).trans hm0
           have cc2 : decide (y < (x.length : Int)) = true := decide_eq_true q2
           have PQ := Aside0.mk (And.intro p2 q2)
           have HX2 := Aside0.mk (show x.length ≤ 9223372036854775807 from HX.out.2.1)
           replace p2 := eq_true p2
           replace q2 := eq_true q2
           go_wp2
           all_goals
             go_roundg gki
             case measure => omega
             case rel =>
               refine ⟨_, wrap64 (y + 1), rfl, (by first | rfl | (simp; done) | (simp [*]; done)), ⟨?_, ?_, ?_⟩, BL, BB, HB⟩
               · have := HM.out.1; first | omega | ((repeat' split) <;> omega)
               · have := HM.out.2.1; first | omega | ((repeat' split) <;> omega)
               · obtain ⟨_, _, j, h1, h2⟩ := HM.out
                 have := PQ.out
                 have := HX2.out
                 exact ⟨j + 1, by unfold wrap64; omega, by omega⟩
end Go.Proofs.YtmedciidghmkkaaDoor.PLinValues
