/- What the call of each function that the law reaches comes to: it answers as the plain function of the same name does, wherever that one answers; and the law itself out of its plain form. Written by a program of this session (an extended copy of the printer); no condition but what stands in each theorem. -/
import Derived.Test.YtmedciidghmkkaaPIneqTurnsx0
import Derived.Test.YtmedciidghmkkaaPIneqTurnsx1
import Derived.Test.YtmedciidghmkkaaPIneqTurnsx9
import Derived.Test.YtmedciidghmkkaaPIneqTurnsx13
namespace Go.Proofs.Ytmedciidghmkkaa.PIneqTurns
open Go.RowKit Go.Proofs.YtmedciidghmkkaaW.PrintWords Go.Proofs.YtmedciidghmkkaaW.PrintLast Go.Proofs.YtmedciidghmkkaaW.PrintMore
open Go.Proofs.YtmedciidghmkkaaW.PrintWords renaming blk_drewN → zN, blk_drew → zD, blk_alloc → zA, below_alloc → yA, pw_below_drewN → yN, below_drew1 → yD, below_set → yS, gate_callee → zC
open Go.Proofs.YtmedciidghmkkaaW.PrintWords.Kd renaming V_alloc → vA, V_drewN → vN, V_drew → vD, C_alloc → cA, C_drewN → cN, C_drew → cD, V_mono → vM
open Go.Proofs.YtmedciidghmkkaaW.PrintWords.Aside0 renaming mk → zK
attribute [local go_sem] max2_int min2_int max_two min_two max_three min_three max_four min_four   -- for this text's walks alone
set_option linter.unusedVariables false
set_option linter.unusedSimpArgs false

attribute [local go_sem high] eqA47
/-! ### sequiturref01_Gcd: function 59 -/
def sequiturref01_Gcd.l0 : Nat → List Int → Int → Int → Option (Int × Bool)
 | 0, _, _, _ => none
 | k + 1, x0, x4, x5 => if x5 < (x0.length : Int) then (if 0 ≤ x5 then ((sequiturref01_Far.f (rd x0 x5)).bind fun t407 => ((sequiturref01_gcd.f k x4 t407).bind fun t408 => (sequiturref01_Gcd.l0 k x0 t408 (wrap64 (x5 + 1))))) else (none)) else (if x4 ≥ 9223372036854775808 then (some (0, false)) else (some (wrap64 (x4), true)))
def sequiturref01_Gcd.f (k : Nat) (l0 : List Int) : Option (Int × Bool) := sequiturref01_Gcd.l0 k l0 0 0
theorem sequiturref01_Gcd.mono_l : ∀ k, (∀ y0 y1 y2, LeO (sequiturref01_Gcd.l0 k y0 y1 y2) (sequiturref01_Gcd.l0 (k + 1) y0 y1 y2))
 | 0 => fun _ _ _ r h => by simp [sequiturref01_Gcd.l0] at h
 | k + 1 => by
  have ih0 := sequiturref01_Gcd.mono_l k
  ·intro y0 y1 y2
   unfold sequiturref01_Gcd.l0
   repeat' first
   | (with_reducible exact ih0 _ _ _)
   | (with_reducible exact sequiturref01_gcd.mono _ _ _)
   | (with_reducible exact LeO.refl _)
   | (with_reducible exact LeO.none _)
   | (with_reducible refine LeO.ite ?_ ?_)
   | (with_reducible refine LeO.bind ?_ (fun _ => ?_))
   | exact ih0 _ _ _
   | exact sequiturref01_gcd.mono _ _ _
   | exact LeO.none _
   | refine LeO.ite ?_ ?_
   | refine LeO.bind ?_ (fun _ => ?_)
theorem sequiturref01_Gcd.mono : ∀ a0 k, LeO (sequiturref01_Gcd.f k a0) (sequiturref01_Gcd.f (k + 1) a0) := by
 intro a0 k
 have ih0 := sequiturref01_Gcd.mono_l k
 unfold sequiturref01_Gcd.f
 repeat' first
   | (with_reducible exact ih0 _ _ _)
   | (with_reducible exact sequiturref01_gcd.mono _ _ _)
   | (with_reducible exact LeO.refl _)
   | (with_reducible exact LeO.none _)
   | (with_reducible refine LeO.ite ?_ ?_)
   | (with_reducible refine LeO.bind ?_ (fun _ => ?_))
   | exact ih0 _ _ _
   | exact sequiturref01_gcd.mono _ _ _
   | exact LeO.none _
   | refine LeO.ite ?_ ?_
   | refine LeO.bind ?_ (fun _ => ?_)
set_option maxHeartbeats 8000000 in
set_option maxRecDepth 100000 in
theorem sequiturref01_Gcd.calls (k : Nat) (A0 : Option Addr) (c0 : Nat) (l0 : List Int) (r1 : Int) (r2 : Bool) (w : World) (hr0 : Kd.C (Kd.int .i64) w A0 l0.length l0) (hc0 : l0.length ≤ c0) (h : sequiturref01_Gcd.f k l0 = some (r1, r2)) :
  Calls Try.prog 59 #[.slice A0 l0.length c0] w fun e w' => e = .returned (.tuple #[.int .i64 r1, .bool r2]) ∧ Drawn0 w w' := by
 have HR0 := zK hr0
 have HC0 := zK hc0
 clear hr0 hc0
 have H : (sequiturref01_Gcd.l0 k l0 0 0) = some (r1, r2) := h
 clear h
 have H' := zK H
 clear H
 go_enter Try.func59, Try.ntmps59
 go_wp2
 go_loopg [4, 5] k (fun kq v4 v5 w' => ∃ (x4_1 : Int) (x5_1 : Int), v4 = .int .u64 x4_1 ∧ v5 = .int .i64 x5_1 ∧ Aside0 (sequiturref01_Gcd.l0 kq l0 x4_1 x5_1 = some (r1, r2)) ∧ Aside0 (kq ≤ k) ∧ Drawn0 w w')
 case atStart => exact ⟨(0), (0), (by first | rfl | (simp; done) | (simp [*]; done)), (by first | rfl | (simp; done) | (simp [*]; done)), H', ⟨Nat.le_refl _⟩, by repeat (first | exact Drawn0.refl _ | apply Drawn0.step)⟩
 case round =>
  clear H'
  obtain ⟨x4_1, x5_1, rfl, rfl, HA, HK1, ⟨m1, rfl⟩⟩ := hrel
  cases gk with
  | zero => exact absurd HA.out (by simp [sequiturref01_Gcd.l0])
  | succ k1 =>
   have H := HA.out
   clear HA
   simp only [sequiturref01_Gcd.l0] at H
   by_cases c2 : x5_1 < (l0.length : Int)
   ·rw [if_pos c2] at H
    have c2b0 : decide (x5_1 < (l0.length : Int)) = true := decide_eq_true c2
    clear c2
    by_cases c3 : 0 ≤ x5_1
    ·rw [if_pos c3] at H
     have c3b0 : decide (0 ≤ x5_1) = true := decide_eq_true c3
     clear c3
     replace H := Option.bind_eq_some_iff.mp H
     obtain ⟨t407, A40, H⟩ := H
     replace H : ((sequiturref01_gcd.f k1 x4_1 t407).bind fun t408 => (sequiturref01_Gcd.l0 k1 l0 t408 (wrap64 (x5_1 + 1)))) = some (r1, r2) := H
     have A4 := zK A40
     clear A40
     replace H := Option.bind_eq_some_iff.mp H
     obtain ⟨t408, A50, H⟩ := H
     replace H : (sequiturref01_Gcd.l0 k1 l0 t408 (wrap64 (x5_1 + 1))) = some (r1, r2) := H
     have A5 := zK A50
     clear A50
     have H' := zK H
     clear H
     have p406 : 0 ≤ (x5_1 : Int) := of_decide_eq_true (by first | (with_reducible assumption) | assumption)
     have q406 : x5_1 < (l0.length : Int) := of_decide_eq_true (by first | (with_reducible assumption) | assumption)
     obtain ⟨ad406, e406, hx406_0⟩ := Kd.at_int HR0.out x5_1 p406 q406
     cases e406
     replace p406 := eq_true p406
     replace q406 := eq_true q406
     go_wp2_with (first | ((with_reducible refine zC (f := 77) rfl ?_); refine goesL_ (some 17) rfl rfl Try.func77 (by kernel_rfl) rfl #[.int .i64 (rd l0 x5_1)] rfl (by (try simp only [List.map_toArray, List.map_cons, List.map_nil]); first | done | rfl | (simp only [List.length_drop, List.length_take]; rfl)) ?_; (with_reducible refine (sequiturref01_Far.calls (rd l0 x5_1) t407 _ A4.out).mono ?_); rintro e w' ⟨rfl, ⟨nd, rfl⟩⟩; refine ⟨_, rfl, ?_⟩) | ((with_reducible refine zC (f := 76) rfl ?_); refine goesL_ (some 18) rfl rfl Try.func76 (by kernel_rfl) rfl #[.int .u64 x4_1, .int .u64 t407] rfl (by (try simp only [List.map_toArray, List.map_cons, List.map_nil]); first | done | rfl | (simp only [List.length_drop, List.length_take]; rfl)) ?_; (with_reducible refine (sequiturref01_gcd.calls k1 x4_1 t407 t408 _ A5.out).mono ?_); rintro e w' ⟨rfl, ⟨nd, rfl⟩⟩; refine ⟨_, rfl, ?_⟩))
     go_roundg k1
     case measure => have := HK1.out; omega
     case rel => exact ⟨(t408), (wrap64 (x5_1 + 1)), (by first | rfl | (simp; done) | (simp [*]; done)), (by first | rfl | (simp; done) | (simp [*]; done)), H', ⟨by have := HK1.out; omega⟩, by repeat (first | exact Drawn0.refl _ | apply Drawn0.step)⟩
    ·rw [if_neg c3] at H
     exact absurd H (by simp)
   ·rw [if_neg c2] at H
    have c2b0 : decide (x5_1 < (l0.length : Int)) = false := decide_eq_false c2
    clear c2
    by_cases c6 : x4_1 ≥ 9223372036854775808
    ·rw [if_pos c6] at H
     have c6b0 : decide (9223372036854775808 ≤ x4_1) = true := decide_eq_true c6
     clear c6
     simp only [Option.some.injEq, Prod.mk.injEq] at H
     obtain ⟨rfl, rfl⟩ := H
     go_wp2
     go_ret2
     exact ⟨by first | rfl | (simp; done) | (simp [*]; done), by repeat (first | exact Drawn0.refl _ | apply Drawn0.step)⟩
    ·rw [if_neg c6] at H
     have c6b0 : decide (9223372036854775808 ≤ x4_1) = false := decide_eq_false c6
     clear c6
     simp only [Option.some.injEq, Prod.mk.injEq] at H
     obtain ⟨rfl, rfl⟩ := H
     go_wp2
     go_ret2
     exact ⟨by first | rfl | (simp; done) | (simp [*]; done), by repeat (first | exact Drawn0.refl _ | apply Drawn0.step)⟩

/-! ### sequiturref28_Gcd: function 43 -/
def sequiturref28_Gcd.l0 : Nat → List Int → Int → Int → List (S47) → Option (Int)
 | 0, _, _, _, _ => none
 | k + 1, x3, x4, x410000, x410001 => if x4 < (x410001.length : Int) then (if 0 ≤ x4 then (if x3.length < 17592186044416 then (sequiturref28_Gcd.l0 k (x3 ++ [(rd_T47 x410001 x4).f1]) (wrap64 (x4 + 1)) x410000 x410001) else (none)) else (none)) else ((sequiturref01_Gcd.f k x3).bind fun bt414 => (some bt414.1))
def sequiturref28_Gcd.f (k : Nat) (a0_0 : Int) (l0_1 : List (S47)) : Option (Int) := sequiturref28_Gcd.l0 k ([] : List Int) 0 a0_0 l0_1
theorem sequiturref28_Gcd.mono_l : ∀ k, (∀ y0 y1 y2 y3, LeO (sequiturref28_Gcd.l0 k y0 y1 y2 y3) (sequiturref28_Gcd.l0 (k + 1) y0 y1 y2 y3))
 | 0 => fun _ _ _ _ r h => by simp [sequiturref28_Gcd.l0] at h
 | k + 1 => by
  have ih0 := sequiturref28_Gcd.mono_l k
  ·intro y0 y1 y2 y3
   unfold sequiturref28_Gcd.l0
   repeat' first
   | (with_reducible exact ih0 _ _ _ _)
   | (with_reducible exact sequiturref01_Gcd.mono _ _)
   | (with_reducible exact LeO.refl _)
   | (with_reducible exact LeO.none _)
   | (with_reducible refine LeO.ite ?_ ?_)
   | (with_reducible refine LeO.bind ?_ (fun _ => ?_))
   | exact ih0 _ _ _ _
   | exact sequiturref01_Gcd.mono _ _
   | exact LeO.none _
   | refine LeO.ite ?_ ?_
   | refine LeO.bind ?_ (fun _ => ?_)
theorem sequiturref28_Gcd.mono : ∀ a0 a1 k, LeO (sequiturref28_Gcd.f k a0 a1) (sequiturref28_Gcd.f (k + 1) a0 a1) := by
 intro a0 a1 k
 have ih0 := sequiturref28_Gcd.mono_l k
 unfold sequiturref28_Gcd.f
 repeat' first
   | (with_reducible exact ih0 _ _ _ _)
   | (with_reducible exact sequiturref01_Gcd.mono _ _)
   | (with_reducible exact LeO.refl _)
   | (with_reducible exact LeO.none _)
   | (with_reducible refine LeO.ite ?_ ?_)
   | (with_reducible refine LeO.bind ?_ (fun _ => ?_))
   | exact ih0 _ _ _ _
   | exact sequiturref01_Gcd.mono _ _
   | exact LeO.none _
   | refine LeO.ite ?_ ?_
   | refine LeO.bind ?_ (fun _ => ?_)
set_option maxHeartbeats 8000000 in
set_option maxRecDepth 100000 in
theorem sequiturref28_Gcd.calls (k : Nat) (a0_0 : Int) (A0_1 : Option Addr) (c0_1 : Nat) (l0_1 : List (S47)) (r : Int) (w : World) (hr0_1 : Kd.C k47 w A0_1 l0_1.length l0_1) (hc0_1 : l0_1.length ≤ c0_1) (h : sequiturref28_Gcd.f k a0_0 l0_1 = some r) :
  Calls Try.prog 43 #[.agg #[.int .i64 a0_0, .slice A0_1 l0_1.length c0_1]] w fun e w' => e = .returned (.int .i64 r) ∧ Below w.heap.size w w' := by
 have hu28 := Try.underlying28
 have HR0_1 := zK hr0_1
 have HC0_1 := zK hc0_1
 clear hr0_1 hc0_1
 have HB := zK (Below.refl w.heap.size w)
 have H : (sequiturref28_Gcd.l0 k ([] : List Int) 0 a0_0 l0_1) = some r := h
 clear h
 have H' := zK H
 clear H
 go_enter Try.func43, Try.ntmps43
 go_wp2_with (first | ((with_reducible refine gate_dst (N := 1) rfl ?_); refine box_event ?hg (N := 1) ?hd (cs := #[.int .i64 a0_0, .slice A0_1 l0_1.length c0_1]) (t := 28) ?hr ?_; (case hd => rfl); (case hg => rfl); (case hr => first | (go_simp; done) | (go_simp; rfl)); intro gb409 hg w2 hbox hb; have BK409 := zK (hbox); have GW409 := zK ((by rw [hg]; exact (below_size (zo HB)) : w.heap.size ≤ gb409)); have GE409 := zK ((by rw [hg]; exact (below_size (zo HB)) : w.heap.size ≤ gb409)); replace HB := zK (below_step (zo HB) hb); clear hb hbox hg))
 go_loopg [3, 4] k (fun kq v3 v4 w' => ∃ (x3_1 : List Int) (x4_1 : Int), v4 = .int .i64 x4_1 ∧ Aside0 (sequiturref28_Gcd.l0 kq x3_1 x4_1 a0_0 l0_1 = some r) ∧ Aside0 (kq ≤ k) ∧ Aside0 (Kd.R (Kd.int .i64) 2 w' w.heap.size (fun _ => True) v3 x3_1) ∧ Aside0 (w'.heap[gb409]? = some (.cells #[.int .i64 a0_0, (.slice A0_1 l0_1.length c0_1)] 28 (0, 0))) ∧ Aside0 (Below w.heap.size w w'))
 case atStart => exact ⟨(([] : List Int)), (0), (by first | rfl | (simp; done) | (simp [*]; done)), H', ⟨Nat.le_refl _⟩, ⟨by first | exact Kd.R_nil _ _ _ _ _ | exact Kd.N_nil _ _ _ _ _ | exact Kd.V_nil _ _ _ _ _ | exact Kd.Q_nil _ _ _ _ _ | exact Kd.S_nil _ _ _ _ _⟩, ⟨zb BK409⟩, ⟨zo HB⟩⟩
 case round =>
  clear H'
  try clear p2
  obtain ⟨x3_1, x4_1, rfl, HA, HK1, HO_3, BK409, HB⟩ := hrel
  cases gk with
  | zero => exact absurd HA.out (by simp [sequiturref28_Gcd.l0])
  | succ k1 =>
   have H := HA.out
   clear HA
   simp only [sequiturref28_Gcd.l0] at H
   by_cases c3 : x4_1 < (l0_1.length : Int)
   ·rw [if_pos c3] at H
    have c3b0 : decide (x4_1 < (l0_1.length : Int)) = true := decide_eq_true c3
    clear c3
    by_cases c4 : 0 ≤ x4_1
    ·rw [if_pos c4] at H
     have c4b0 : decide (0 ≤ x4_1) = true := decide_eq_true c4
     clear c4
     by_cases c5 : x3_1.length < 17592186044416
     ·rw [if_pos c5] at H
      have LMc5 := zK c5
      clear c5
      obtain ⟨y411, hy411⟩ : ∃ y_ : List Int, y_ = (x3_1 ++ [(rd_T47 l0_1 x4_1).f1]) := ⟨_, rfl⟩
      replace H : (sequiturref28_Gcd.l0 k1 y411 (wrap64 (x4_1 + 1)) a0_0 l0_1) = some r := by first | (rw [hy411]; with_reducible exact H) | (have H2_ := (Option.bind_some _ _).symm.trans H; rw [hy411]; with_reducible exact H2_) | (have H2_ := (Option.bind_some _ _).symm.trans H; with_reducible exact H2_) | with_reducible exact H | (rw [hy411]; exact H) | exact H
      have Ny411 := zK hy411
      clear hy411
      have H' := zK H
      clear H
      have hcz6_0 : wr.cell? ⟨gb409, 0, none⟩ = some (.int .i64 a0_0) := (blk_cell BK409.out 0).trans rfl
      have hcz6_1 : wr.cell? ⟨gb409, 1, none⟩ = some (.slice A0_1 l0_1.length c0_1) := (blk_cell BK409.out 1).trans rfl
      have hfz6_0 := blk_frozen BK409.out 0
      have hfz6_1 := blk_frozen BK409.out 1
      have p410 : 0 ≤ (x4_1 : Int) := of_decide_eq_true (by first | (with_reducible assumption) | assumption)
      have q410 : x4_1 < (l0_1.length : Int) := of_decide_eq_true (by first | (with_reducible assumption) | assumption)
      obtain ⟨ad410, e410, hx410_0, hx410_1⟩ := at_T47 HR0_1.out x4_1 p410 q410
      cases e410
      replace hx410_0 := (HB.out.cell (World.block_lt_of_cell? w _ hx410_0)).trans hx410_0
      replace hx410_1 := (HB.out.cell (World.block_lt_of_cell? w _ hx410_1)).trans hx410_1
      replace p410 := eq_true p410
      replace q410 := eq_true q410
      go_wp2_with (first | ((with_reducible refine gate_builtin (b := .append) (xs := #[.tmp 14, .tmp 21]) rfl ?_); at_builtin; refine Kd.R_append (Kd.int .i64) (w0 := w) w.heap.size rfl (.tmp 14) (.tmp 21) 23 2 (.int .i64 0) 8 rfl Try.underlying23 info2 rfl (by decide) (by omega) u3 x3_1 ((rd_T47 l0_1 x4_1).f1) [.int .i64 ((rd_T47 l0_1 x4_1).f1)] (fun _ => True) (fun _ => False) rfl rfl ?aP (fun _ hk => hk.elim) ?aF ?aO ?aB ?aS ?aL ?_; (case aP => exact rfl); (case aB => exact (zo HB)); (case aF => exact (fun _ _ => trivial)); (case aO => exact (zr HO_3)); (case aS => exact (below_size (zo HB))); (case aL => have := LMc5.out; omega); intro v412 w7 ho hb hg hat; rw [← Ny411.out] at ho; replace BK409 := zK (blk_grown (g := gb409) (o := .cells #[.int .i64 a0_0, .slice (some ad410) l0_1.length c0_1] 28 (0, 0)) (zb BK409) hg (Kd.R_ne HO_3.out BK409.out (by decide))); replace HB := zK (hb); have HO413 := zK (ho); clear HO_3 ho hb hg hat))
      go_roundg k1
      case measure => have := HK1.out; omega
      case rel => exact ⟨(y411), (wrap64 (x4_1 + 1)), (by first | rfl | (simp; done) | (simp [*]; done)), H', ⟨by have := HK1.out; omega⟩, ⟨zr HO413⟩, ⟨zb BK409⟩, ⟨zo HB⟩⟩
     ·rw [if_neg c5] at H
      exact absurd H (by simp)
    ·rw [if_neg c4] at H
     exact absurd H (by simp)
   ·rw [if_neg c3] at H
    have c3b0 : decide (x4_1 < (l0_1.length : Int)) = false := decide_eq_false c3
    clear c3
    replace H := Option.bind_eq_some_iff.mp H
    obtain ⟨⟨t414, t415⟩, A80, H⟩ := H
    replace H : (some t414) = some r := H
    have A8 := zK A80
    clear A80
    obtain rfl := Option.some.inj H
    have hcz9_0 : wr.cell? ⟨gb409, 0, none⟩ = some (.int .i64 a0_0) := (blk_cell BK409.out 0).trans rfl
    have hcz9_1 : wr.cell? ⟨gb409, 1, none⟩ = some (.slice A0_1 l0_1.length c0_1) := (blk_cell BK409.out 1).trans rfl
    have hfz9_0 := blk_frozen BK409.out 0
    have hfz9_1 := blk_frozen BK409.out 1
    obtain ⟨Ao10, co10, eo10⟩ := Kd.R_slice HO_3.out
    subst eo10
    go_wp2_with (first | ((with_reducible refine zC (f := 59) rfl ?_); refine goesL_ (some 25) rfl rfl Try.func59 (by kernel_rfl) rfl #[.slice Ao10 x3_1.length co10] rfl (by (try simp only [List.map_toArray, List.map_cons, List.map_nil]); first | done | rfl | (simp only [List.length_drop, List.length_take]; rfl)) ?_; (with_reducible refine (sequiturref01_Gcd.calls k1 _ _ x3_1 t414 t415 _ ?side1 ?side2 A8.out).mono ?_); (case side1 => repeat (first | exact (Kd.R_reads' HO_3.out).2.2 | (with_reducible refine cA ?_ _) | (with_reducible refine cN ?_ _) | (with_reducible refine cD ?_))); (case side2 => exact (Kd.R_reads' HO_3.out).2.1); rintro e w' ⟨rfl, ⟨nd, rfl⟩⟩; refine ⟨_, rfl, ?_⟩))
    go_ret
    exact ⟨by first | rfl | (simp [errW_none, errW_some] <;> rfl) | (simp [*, errW_none, errW_some] <;> rfl), zo HB⟩

/-! ### sequiturref28_Tight: function 25, by hand -/
def sequiturref28_Tight.f (k : Nat) (a0_0 : Int) (l0_1 : List (S47)) (a0_2 : Bool) : Option (Int × (List (S47)) × Bool × Int) := (sequiturref28_Form.f k a0_0 l0_1).bind fun t418 => (if t418 = true then ((sequiturref28_Gcd.f k a0_0 l0_1).bind fun t419 => (if t419 < 2 then (some (a0_0, l0_1, a0_2, 0)) else (if a0_2 = true then (if t419 = 0 then (none) else (if (Int.tmod a0_0 t419) = 0 then ((sequiturref28_by.f k a0_0 l0_1 t419).bind fun bt420 => (some (bt420.1, bt420.2, a0_2, 0))) else (some (1, ([] : List (S47)), true, 0)))) else ((sequiturref28_by.f k a0_0 l0_1 t419).bind fun bt424 => (some (bt424.1, bt424.2, a0_2, 0)))))) else (some (0, ([] : List (S47)), false, 1)))
theorem sequiturref28_Tight.mono : ∀ a0 a1 a2 k, LeO (sequiturref28_Tight.f k a0 a1 a2) (sequiturref28_Tight.f (k + 1) a0 a1 a2) := by
 intro a0 a1 a2 k
 unfold sequiturref28_Tight.f
 repeat' first
   | (with_reducible exact sequiturref28_Form.mono _ _ _)
   | (with_reducible exact sequiturref28_Gcd.mono _ _ _)
   | (with_reducible exact sequiturref28_by.mono _ _ _ _)
   | (with_reducible exact LeO.refl _)
   | (with_reducible exact LeO.none _)
   | (with_reducible refine LeO.ite ?_ ?_)
   | (with_reducible refine LeO.bind ?_ (fun _ => ?_))
   | exact sequiturref28_Form.mono _ _ _
   | exact sequiturref28_Gcd.mono _ _ _
   | exact sequiturref28_by.mono _ _ _ _
   | exact LeO.none _
   | refine LeO.ite ?_ ?_
   | refine LeO.bind ?_ (fun _ => ?_)
def sequiturref28_Tight.T8 : Bool × List (List Nat × List Nat) := (true, [([], []), ([0], [0]), ([], []), ([1, 2], [1, 2]), ([], []), ([4], [4]), ([3, 5], [3, 5]), ([6, 3, 0, 1, 2, 3, 4, 5, 6], [6]), ([7, 0, 1, 2, 3, 4, 5, 6, 7], [])])
def sequiturref28_Tight.B8 : List Nat := [0, 1, 0, 7, 0, 16, 63, 127, 255]
theorem sequiturref28_Tight.tab8 : rtab .any (opsOf Try.f25 8) = sequiturref28_Tight.T8 := by kernel_rfl
theorem sequiturref28_Tight.bits8 : waitsOk sequiturref28_Tight.T8.2 sequiturref28_Tight.B8 = true := by kernel_rfl
set_option maxHeartbeats 8000000 in
set_option maxRecDepth 100000 in
theorem sequiturref28_Tight.calls_ (k : Nat) (a0_0 : Int) (u9000_ : Value) (l0_1 : List (S47)) (a0_2 : Bool) (r1 : Int) (r2 : List (S47)) (r3 : Bool) (r4 : Int) (w : World) (hs0_1 : Kd.V k47 47 w w.heap.size (fun _ => True) u9000_ l0_1) (h : sequiturref28_Tight.f k a0_0 l0_1 a0_2 = some (r1, r2, r3, r4)) :
  Calls Try.prog 25 #[.agg #[.int .i64 a0_0, u9000_, .bool a0_2]] w fun e w' => ∃ v1_ : Value, e = .returned (.tuple #[.agg #[.int .i64 r1, v1_, .bool r3], .int .i64 r4]) ∧ Kd.V k47 47 w' w.heap.size (fun _ => True) v1_ r2 ∧ Below w.heap.size w w' := by
 obtain ⟨P0_1_, _⟩ : ∃ P : Nat → Prop, P = fun _ => False := ⟨_, rfl⟩
 have hu30 := Try.underlying30
 have hu28 := Try.underlying28
 have HO0_1 := zK (show Kd.V k47 47 w w.heap.size (fun _ => True) u9000_ l0_1 from hs0_1)
 have HK := zK (Kept.refl w (fun k_ => P0_1_ k_))
 have HB := zK (Below.refl w.heap.size w)
 have H : ((sequiturref28_Form.f k a0_0 l0_1).bind fun t418 => (if t418 = true then ((sequiturref28_Gcd.f k a0_0 l0_1).bind fun t419 => (if t419 < 2 then (some (a0_0, l0_1, a0_2, 0)) else (if a0_2 = true then (if t419 = 0 then (none) else (if (Int.tmod a0_0 t419) = 0 then ((sequiturref28_by.f k a0_0 l0_1 t419).bind fun bt420 => (some (bt420.1, bt420.2, a0_2, 0))) else (some (1, ([] : List (S47)), true, 0)))) else ((sequiturref28_by.f k a0_0 l0_1 t419).bind fun bt424 => (some (bt424.1, bt424.2, a0_2, 0)))))) else (some (0, ([] : List (S47)), false, 1)))) = some (r1, r2, r3, r4) := h
 clear h
 replace H := Option.bind_eq_some_iff.mp H
 obtain ⟨t418, A20, H⟩ := H
 replace H : (if t418 = true then ((sequiturref28_Gcd.f k a0_0 l0_1).bind fun t419 => (if t419 < 2 then (some (a0_0, l0_1, a0_2, 0)) else (if a0_2 = true then (if t419 = 0 then (none) else (if (Int.tmod a0_0 t419) = 0 then ((sequiturref28_by.f k a0_0 l0_1 t419).bind fun bt420 => (some (bt420.1, bt420.2, a0_2, 0))) else (some (1, ([] : List (S47)), true, 0)))) else ((sequiturref28_by.f k a0_0 l0_1 t419).bind fun bt424 => (some (bt424.1, bt424.2, a0_2, 0)))))) else (some (0, ([] : List (S47)), false, 1))) = some (r1, r2, r3, r4) := H
 have A2 := zK A20
 clear A20
 by_cases c3 : t418 = true
 ·subst c3
  have H1 : ((sequiturref28_Gcd.f k a0_0 l0_1).bind fun t419 => (if t419 < 2 then (some (a0_0, l0_1, a0_2, 0)) else (if a0_2 = true then (if t419 = 0 then (none) else (if (Int.tmod a0_0 t419) = 0 then ((sequiturref28_by.f k a0_0 l0_1 t419).bind fun bt420 => (some (bt420.1, bt420.2, a0_2, 0))) else (some (1, ([] : List (S47)), true, 0)))) else ((sequiturref28_by.f k a0_0 l0_1 t419).bind fun bt424 => (some (bt424.1, bt424.2, a0_2, 0)))))) = some (r1, r2, r3, r4) := by rw [if_pos rfl] at H; exact H
  clear H
  have H := H1
  clear H1
  replace H := Option.bind_eq_some_iff.mp H
  obtain ⟨t419, A40, H⟩ := H
  replace H : (if t419 < 2 then (some (a0_0, l0_1, a0_2, 0)) else (if a0_2 = true then (if t419 = 0 then (none) else (if (Int.tmod a0_0 t419) = 0 then ((sequiturref28_by.f k a0_0 l0_1 t419).bind fun bt420 => (some (bt420.1, bt420.2, a0_2, 0))) else (some (1, ([] : List (S47)), true, 0)))) else ((sequiturref28_by.f k a0_0 l0_1 t419).bind fun bt424 => (some (bt424.1, bt424.2, a0_2, 0))))) = some (r1, r2, r3, r4) := H
  have A4 := zK A40
  clear A40
  by_cases c5 : t419 < 2
  ·rw [if_pos c5] at H
   have c5b0 : decide (t419 < 2) = true := decide_eq_true c5
   clear c5
   simp only [Option.some.injEq, Prod.mk.injEq] at H
   obtain ⟨rfl, rfl, rfl, rfl⟩ := H
   obtain ⟨Ao6, co6, eo6⟩ := Kd.V_slice HO0_1.out
   subst eo6
   go_enter Try.func25, Try.ntmps25
   go_wp2_with (first | ((with_reducible refine gate_dst (N := 1) rfl ?_); refine box_event ?hg (N := 1) ?hd (cs := #[.int .i64 a0_0, .slice Ao6 l0_1.length co6, .bool a0_2]) (t := 30) ?hr ?_; (case hd => rfl); (case hg => rfl); (case hr => first | (go_simp; done) | (go_simp; rfl)); intro gb416 hg w7 hbox hb; replace HO0_1 := zK (Kd.V_below (zv HO0_1) hb); have BK416 := zK (hbox); have GW416 := zK ((by rw [hg]; exact (by first | exact HK.out.1 | exact (show Kept w _ (fun k_ => P0_1_ k_) from by repeat (first | (with_reducible first | exact HK.out | apply Kept.alloc | apply Kept.drewN | apply Kept.drew) | exact HK.out)).1) : w.heap.size ≤ gb416)); replace HK := zK (Kept.below (S := (fun k_ => P0_1_ k_)) (by repeat (first | (with_reducible first | exact HK.out | apply Kept.alloc | apply Kept.drewN | apply Kept.drew) | exact HK.out)) hb); have GE416 := zK ((by rw [hg]; exact (below_size (zo HB)) : w.heap.size ≤ gb416)); replace HB := zK (below_step (zo HB) hb); clear hb hbox hg) | ((with_reducible refine gate_dst (N := 2) rfl ?_); refine box_event ?hg (N := 2) ?hd (cs := #[.int .i64 0, .slice none 0 0, .bool false]) (t := 30) ?hr ?_; (case hd => rfl); (case hg => rfl); (case hr => first | (go_simp; done) | (go_simp; rfl)); intro gb417 hg w8 hbox hb; replace HO0_1 := zK (Kd.V_below (zv HO0_1) hb); have BK417 := zK (hbox); have GW417 := zK ((by rw [hg]; exact (by first | exact HK.out.1 | exact (show Kept w _ (fun k_ => P0_1_ k_) from by repeat (first | (with_reducible first | exact HK.out | apply Kept.alloc | apply Kept.drewN | apply Kept.drew | refine Kept.setCell ?_ (.inr GW416.out) _) | exact HK.out)).1) : w.heap.size ≤ gb417)); replace HK := zK (Kept.below (S := (fun k_ => P0_1_ k_)) (by repeat (first | (with_reducible first | exact HK.out | apply Kept.alloc | apply Kept.drewN | apply Kept.drew | refine Kept.setCell ?_ (.inr GW416.out) _) | exact HK.out)) hb); have GE417 := zK ((by rw [hg]; exact (below_size (zo HB)) : w.heap.size ≤ gb417)); replace HB := zK (below_step (zo HB) hb); have NB416_417 := zK ((by rw [hg]; exact Nat.ne_of_lt (blk_lt (g := gb416) (o := .cells #[.int .i64 a0_0, .slice Ao6 l0_1.length co6, .bool a0_2] 30 (0, 0)) (zb BK416)) : gb416 ≠ gb417)); have NB417_416 := zK ((by rw [hg]; exact Nat.ne_of_gt (blk_lt (g := gb416) (o := .cells #[.int .i64 a0_0, .slice Ao6 l0_1.length co6, .bool a0_2] 30 (0, 0)) (zb BK416)) : gb417 ≠ gb416)); replace BK416 := zK (blk_below (g := gb416) (o := .cells #[.int .i64 a0_0, .slice Ao6 l0_1.length co6, .bool a0_2] 30 (0, 0)) (zb BK416) hb); clear hb hbox hg; have hnb9 := NB416_417.out; have hnc9 := NB417_416.out; have hcz10_0 : w8.cell? ⟨gb416, 0, none⟩ = some (.int .i64 a0_0) := (blk_cell BK416.out 0).trans rfl; have hcz10_1 : w8.cell? ⟨gb416, 1, none⟩ = some (.slice Ao6 l0_1.length co6) := (blk_cell BK416.out 1).trans rfl; have hcz10_2 : w8.cell? ⟨gb416, 2, none⟩ = some (.bool a0_2) := (blk_cell BK416.out 2).trans rfl; have hfz10_0 := blk_frozen BK416.out 0; have hfz10_1 := blk_frozen BK416.out 1; have hfz10_2 := blk_frozen BK416.out 2) | ((with_reducible refine zC (f := 17) rfl ?_); refine goesL_ (some 7) rfl rfl Try.func17 (by kernel_rfl) rfl #[.agg #[.int .i64 a0_0, .slice Ao6 l0_1.length co6]] rfl (by (try simp only [List.map_toArray, List.map_cons, List.map_nil]); first | done | rfl | (simp only [List.length_drop, List.length_take]; rfl)) ?_; (with_reducible refine (sequiturref28_Form.calls k a0_0 _ _ l0_1 true _ ?side1 ?side2 A2.out).mono ?_); (case side1 => repeat (first | exact (Kd.V_reads' HO0_1.out).2.2 | (with_reducible refine cA ?_ _) | (with_reducible refine cN ?_ _) | (with_reducible refine cD ?_))); (case side2 => exact (Kd.V_reads' HO0_1.out).2.1); rintro e w11 ⟨rfl, hb⟩; refine ⟨_, rfl, ?_⟩; replace HO0_1 := zK (Kd.V_below (zv HO0_1) hb); replace BK416 := zK (blk_below (g := gb416) (o := .cells #[.int .i64 a0_0, .slice Ao6 l0_1.length co6, .bool a0_2] 30 (0, 0)) (zb BK416) hb); replace BK417 := zK (blk_below (g := gb417) (o := .cells #[.int .i64 0, .slice none 0 0, .bool false] 30 (0, 0)) (zb BK417) hb); replace HK := zK (Kept.below (S := (fun k_ => P0_1_ k_)) (by repeat (first | (with_reducible first | exact HK.out | apply Kept.alloc | apply Kept.drewN | apply Kept.drew | refine Kept.setCell ?_ (.inr GW416.out) _ | refine Kept.setCell ?_ (.inr GW417.out) _) | exact HK.out)) hb); replace HB := zK (below_step (zo HB) hb); (try clear hb); (try clear hb2); (try clear hk); (try clear hi); have hcz12_0 : w11.cell? ⟨gb416, 0, none⟩ = some (.int .i64 a0_0) := (blk_cell BK416.out 0).trans rfl; have hcz12_1 : w11.cell? ⟨gb416, 1, none⟩ = some (.slice Ao6 l0_1.length co6) := (blk_cell BK416.out 1).trans rfl; have hcz12_2 : w11.cell? ⟨gb416, 2, none⟩ = some (.bool a0_2) := (blk_cell BK416.out 2).trans rfl; have hfz12_0 := blk_frozen BK416.out 0; have hfz12_1 := blk_frozen BK416.out 1; have hfz12_2 := blk_frozen BK416.out 2) | ((with_reducible refine zC (f := 43) rfl ?_); refine goesL_ (some 12) rfl rfl Try.func43 (by kernel_rfl) rfl #[.agg #[.int .i64 a0_0, .slice Ao6 l0_1.length co6]] rfl (by (try simp only [List.map_toArray, List.map_cons, List.map_nil]); first | done | rfl | (simp only [List.length_drop, List.length_take]; rfl)) ?_; (with_reducible refine (sequiturref28_Gcd.calls k a0_0 _ _ l0_1 t419 _ ?side1 ?side2 A4.out).mono ?_); (case side1 => repeat (first | exact (Kd.V_reads' HO0_1.out).2.2 | (with_reducible refine cA ?_ _) | (with_reducible refine cN ?_ _) | (with_reducible refine cD ?_))); (case side2 => exact (Kd.V_reads' HO0_1.out).2.1); rintro e w13 ⟨rfl, hb⟩; refine ⟨_, rfl, ?_⟩; replace HO0_1 := zK (Kd.V_below (zv HO0_1) hb); replace BK416 := zK (blk_below (g := gb416) (o := .cells #[.int .i64 a0_0, .slice Ao6 l0_1.length co6, .bool a0_2] 30 (0, 0)) (zb BK416) hb); replace BK417 := zK (blk_below (g := gb417) (o := .cells #[.int .i64 0, .slice none 0 0, .bool false] 30 (0, 0)) (zb BK417) hb); replace HK := zK (Kept.below (S := (fun k_ => P0_1_ k_)) (by repeat (first | (with_reducible first | exact HK.out | apply Kept.alloc | apply Kept.drewN | apply Kept.drew | refine Kept.setCell ?_ (.inr GW416.out) _ | refine Kept.setCell ?_ (.inr GW417.out) _) | exact HK.out)) hb); replace HB := zK (below_step (zo HB) hb); (try clear hb); (try clear hb2); (try clear hk); (try clear hi); have hcz14_0 : w13.cell? ⟨gb416, 0, none⟩ = some (.int .i64 a0_0) := (blk_cell BK416.out 0).trans rfl; have hcz14_1 : w13.cell? ⟨gb416, 1, none⟩ = some (.slice Ao6 l0_1.length co6) := (blk_cell BK416.out 1).trans rfl; have hcz14_2 : w13.cell? ⟨gb416, 2, none⟩ = some (.bool a0_2) := (blk_cell BK416.out 2).trans rfl; have hfz14_0 := blk_frozen BK416.out 0; have hfz14_1 := blk_frozen BK416.out 1; have hfz14_2 := blk_frozen BK416.out 2; have hcz15_0 : w13.cell? ⟨gb417, 0, none⟩ = some (.int .i64 0) := (blk_cell BK417.out 0).trans rfl; have hcz15_1 : w13.cell? ⟨gb417, 1, none⟩ = some (.slice none 0 0) := (blk_cell BK417.out 1).trans rfl; have hcz15_2 : w13.cell? ⟨gb417, 2, none⟩ = some (.bool false) := (blk_cell BK417.out 2).trans rfl; have hfz15_0 := blk_frozen BK417.out 0; have hfz15_1 := blk_frozen BK417.out 1; have hfz15_2 := blk_frozen BK417.out 2))
   refine bodyPost_ret (results_ct rfl _ _ gb417 30 #[.int .i64 a0_0, .slice Ao6 l0_1.length co6, .bool a0_2] (0, 0) _ rfl (by refine zM ?_; refine blk_put (cs := #[.int .i64 a0_0, .slice Ao6 l0_1.length co6, .bool false]) ?_ 2 _ rfl; refine zM ?_; refine blk_put (cs := #[.int .i64 a0_0, .slice none 0 0, .bool false]) ?_ 1 _ rfl; refine zM ?_; refine blk_put (cs := #[.int .i64 0, .slice none 0 0, .bool false]) ?_ 0 _ rfl; refine zM ?_; exact BK417.out) Try.underlying30 rfl (by kernel_rfl)) rfl ?_
   exact ⟨_, by first | rfl | (simp [errW_none, errW_some] <;> rfl) | (simp [*, errW_none, errW_some] <;> rfl), Kd.V_below hs0_1 (zo HB), zo HB⟩
  ·rw [if_neg c5] at H
   have c5b0 : decide (t419 < 2) = false := decide_eq_false c5
   clear c5
   by_cases c16 : a0_2 = true
   ·subst c16
    have H1 : (if t419 = 0 then (none) else (if (Int.tmod a0_0 t419) = 0 then ((sequiturref28_by.f k a0_0 l0_1 t419).bind fun bt420 => (some (bt420.1, bt420.2, true, 0))) else (some (1, ([] : List (S47)), true, 0)))) = some (r1, r2, r3, r4) := by rw [if_pos rfl] at H; exact H
    clear H
    have H := H1
    clear H1
    by_cases c17 : t419 = 0
    ·rw [if_pos c17] at H
     exact absurd H (by simp)
    ·rw [if_neg c17] at H
     have c17b0 : (t419 == 0) = false := beq_eq_false_iff_ne.mpr c17
     have c17b1 : (t419 != 0) = true := bne_iff_ne.mpr c17
     by_cases c18 : (Int.tmod a0_0 t419) = 0
     ·rw [if_pos c18] at H
      have c18b0 : ((Int.tmod a0_0 t419) == 0) = true := beq_iff_eq.mpr c18
      have c18b1 : ((Int.tmod a0_0 t419) != 0) = false := bne_eq_false_iff_eq.mpr c18
      clear c18
      replace H := Option.bind_eq_some_iff.mp H
      obtain ⟨⟨t420, t421⟩, A190, H⟩ := H
      replace H : (some (t420, t421, true, 0)) = some (r1, r2, r3, r4) := H
      have A19 := zK A190
      clear A190
      simp only [Option.some.injEq, Prod.mk.injEq] at H
      obtain ⟨rfl, rfl, rfl, rfl⟩ := H
      obtain ⟨Ao20, co20, eo20⟩ := Kd.V_slice HO0_1.out
      subst eo20
      go_enter Try.func25, Try.ntmps25
      try go_wp2_with (first | ((with_reducible refine gate_dst (N := 1) rfl ?_); refine box_event ?hg (N := 1) ?hd (cs := #[.int .i64 a0_0, .slice Ao20 l0_1.length co20, .bool true]) (t := 30) ?hr ?_; (case hd => rfl); (case hg => rfl); (case hr => first | (go_simp; done) | (go_simp; rfl)); intro gb416 hg w21 hbox hb; replace HO0_1 := zK (Kd.V_below (zv HO0_1) hb); have BK416 := zK (hbox); have GW416 := zK ((by rw [hg]; exact (by first | exact HK.out.1 | exact (show Kept w _ (fun k_ => P0_1_ k_) from by repeat (first | (with_reducible first | exact HK.out | apply Kept.alloc | apply Kept.drewN | apply Kept.drew) | exact HK.out)).1) : w.heap.size ≤ gb416)); replace HK := zK (Kept.below (S := (fun k_ => P0_1_ k_)) (by repeat (first | (with_reducible first | exact HK.out | apply Kept.alloc | apply Kept.drewN | apply Kept.drew) | exact HK.out)) hb); have GE416 := zK ((by rw [hg]; exact (below_size (zo HB)) : w.heap.size ≤ gb416)); replace HB := zK (below_step (zo HB) hb); clear hb hbox hg) | ((with_reducible refine gate_dst (N := 2) rfl ?_); refine box_event ?hg (N := 2) ?hd (cs := #[.int .i64 0, .slice none 0 0, .bool false]) (t := 30) ?hr ?_; (case hd => rfl); (case hg => rfl); (case hr => first | (go_simp; done) | (go_simp; rfl)); intro gb417 hg w22 hbox hb; replace HO0_1 := zK (Kd.V_below (zv HO0_1) hb); have BK417 := zK (hbox); have GW417 := zK ((by rw [hg]; exact (by first | exact HK.out.1 | exact (show Kept w _ (fun k_ => P0_1_ k_) from by repeat (first | (with_reducible first | exact HK.out | apply Kept.alloc | apply Kept.drewN | apply Kept.drew | refine Kept.setCell ?_ (.inr GW416.out) _) | exact HK.out)).1) : w.heap.size ≤ gb417)); replace HK := zK (Kept.below (S := (fun k_ => P0_1_ k_)) (by repeat (first | (with_reducible first | exact HK.out | apply Kept.alloc | apply Kept.drewN | apply Kept.drew | refine Kept.setCell ?_ (.inr GW416.out) _) | exact HK.out)) hb); have GE417 := zK ((by rw [hg]; exact (below_size (zo HB)) : w.heap.size ≤ gb417)); replace HB := zK (below_step (zo HB) hb); have NB416_417 := zK ((by rw [hg]; exact Nat.ne_of_lt (blk_lt (g := gb416) (o := .cells #[.int .i64 a0_0, .slice Ao20 l0_1.length co20, .bool true] 30 (0, 0)) (zb BK416)) : gb416 ≠ gb417)); have NB417_416 := zK ((by rw [hg]; exact Nat.ne_of_gt (blk_lt (g := gb416) (o := .cells #[.int .i64 a0_0, .slice Ao20 l0_1.length co20, .bool true] 30 (0, 0)) (zb BK416)) : gb417 ≠ gb416)); replace BK416 := zK (blk_below (g := gb416) (o := .cells #[.int .i64 a0_0, .slice Ao20 l0_1.length co20, .bool true] 30 (0, 0)) (zb BK416) hb); clear hb hbox hg; have hnb23 := NB416_417.out; have hnc23 := NB417_416.out; have hcz24_0 : w22.cell? ⟨gb416, 0, none⟩ = some (.int .i64 a0_0) := (blk_cell BK416.out 0).trans rfl; have hcz24_1 : w22.cell? ⟨gb416, 1, none⟩ = some (.slice Ao20 l0_1.length co20) := (blk_cell BK416.out 1).trans rfl; have hcz24_2 : w22.cell? ⟨gb416, 2, none⟩ = some (.bool true) := (blk_cell BK416.out 2).trans rfl; have hfz24_0 := blk_frozen BK416.out 0; have hfz24_1 := blk_frozen BK416.out 1; have hfz24_2 := blk_frozen BK416.out 2) | ((with_reducible refine zC (f := 17) rfl ?_); refine goesL_ (some 7) rfl rfl Try.func17 (by kernel_rfl) rfl #[.agg #[.int .i64 a0_0, .slice Ao20 l0_1.length co20]] rfl (by (try simp only [List.map_toArray, List.map_cons, List.map_nil]); first | done | rfl | (simp only [List.length_drop, List.length_take]; rfl)) ?_; (with_reducible refine (sequiturref28_Form.calls k a0_0 _ _ l0_1 true _ ?side1 ?side2 A2.out).mono ?_); (case side1 => repeat (first | exact (Kd.V_reads' HO0_1.out).2.2 | (with_reducible refine cA ?_ _) | (with_reducible refine cN ?_ _) | (with_reducible refine cD ?_))); (case side2 => exact (Kd.V_reads' HO0_1.out).2.1); rintro e w25 ⟨rfl, hb⟩; refine ⟨_, rfl, ?_⟩; replace HO0_1 := zK (Kd.V_below (zv HO0_1) hb); replace BK416 := zK (blk_below (g := gb416) (o := .cells #[.int .i64 a0_0, .slice Ao20 l0_1.length co20, .bool true] 30 (0, 0)) (zb BK416) hb); replace BK417 := zK (blk_below (g := gb417) (o := .cells #[.int .i64 0, .slice none 0 0, .bool false] 30 (0, 0)) (zb BK417) hb); replace HK := zK (Kept.below (S := (fun k_ => P0_1_ k_)) (by repeat (first | (with_reducible first | exact HK.out | apply Kept.alloc | apply Kept.drewN | apply Kept.drew | refine Kept.setCell ?_ (.inr GW416.out) _ | refine Kept.setCell ?_ (.inr GW417.out) _) | exact HK.out)) hb); replace HB := zK (below_step (zo HB) hb); (try clear hb); (try clear hb2); (try clear hk); (try clear hi); have hcz26_0 : w25.cell? ⟨gb416, 0, none⟩ = some (.int .i64 a0_0) := (blk_cell BK416.out 0).trans rfl; have hcz26_1 : w25.cell? ⟨gb416, 1, none⟩ = some (.slice Ao20 l0_1.length co20) := (blk_cell BK416.out 1).trans rfl; have hcz26_2 : w25.cell? ⟨gb416, 2, none⟩ = some (.bool true) := (blk_cell BK416.out 2).trans rfl; have hfz26_0 := blk_frozen BK416.out 0; have hfz26_1 := blk_frozen BK416.out 1; have hfz26_2 := blk_frozen BK416.out 2) | ((with_reducible refine zC (f := 43) rfl ?_); refine goesL_ (some 12) rfl rfl Try.func43 (by kernel_rfl) rfl #[.agg #[.int .i64 a0_0, .slice Ao20 l0_1.length co20]] rfl (by (try simp only [List.map_toArray, List.map_cons, List.map_nil]); first | done | rfl | (simp only [List.length_drop, List.length_take]; rfl)) ?_; (with_reducible refine (sequiturref28_Gcd.calls k a0_0 _ _ l0_1 t419 _ ?side1 ?side2 A4.out).mono ?_); (case side1 => repeat (first | exact (Kd.V_reads' HO0_1.out).2.2 | (with_reducible refine cA ?_ _) | (with_reducible refine cN ?_ _) | (with_reducible refine cD ?_))); (case side2 => exact (Kd.V_reads' HO0_1.out).2.1); rintro e w27 ⟨rfl, hb⟩; refine ⟨_, rfl, ?_⟩; replace HO0_1 := zK (Kd.V_below (zv HO0_1) hb); replace BK416 := zK (blk_below (g := gb416) (o := .cells #[.int .i64 a0_0, .slice Ao20 l0_1.length co20, .bool true] 30 (0, 0)) (zb BK416) hb); replace BK417 := zK (blk_below (g := gb417) (o := .cells #[.int .i64 0, .slice none 0 0, .bool false] 30 (0, 0)) (zb BK417) hb); replace HK := zK (Kept.below (S := (fun k_ => P0_1_ k_)) (by repeat (first | (with_reducible first | exact HK.out | apply Kept.alloc | apply Kept.drewN | apply Kept.drew | refine Kept.setCell ?_ (.inr GW416.out) _ | refine Kept.setCell ?_ (.inr GW417.out) _) | exact HK.out)) hb); replace HB := zK (below_step (zo HB) hb); (try clear hb); (try clear hb2); (try clear hk); (try clear hi); have hcz28_0 : w27.cell? ⟨gb416, 0, none⟩ = some (.int .i64 a0_0) := (blk_cell BK416.out 0).trans rfl; have hcz28_1 : w27.cell? ⟨gb416, 1, none⟩ = some (.slice Ao20 l0_1.length co20) := (blk_cell BK416.out 1).trans rfl; have hcz28_2 : w27.cell? ⟨gb416, 2, none⟩ = some (.bool true) := (blk_cell BK416.out 2).trans rfl; have hfz28_0 := blk_frozen BK416.out 0; have hfz28_1 := blk_frozen BK416.out 1; have hfz28_2 := blk_frozen BK416.out 2))
      replace HO0_1 := zK (vD HO0_1.out)
      replace BK416 := zK (zD BK416.out)
      replace BK417 := zK (zD BK417.out)
      replace HK := zK (Kept.drew HK.out)
      replace HB := zK (yD HB.out)
      refine start_ (n := 9) (S := fun w' => w'.cell? ⟨gb416, 0, none⟩ = some (.int .i64 a0_0) ∧ w'.cell? ⟨gb416, 1, none⟩ = some (.slice Ao20 l0_1.length co20) ∧ w'.cell? ⟨gb416, 2, none⟩ = some (.bool true)) (ds := []) #[false, false, false, false, false, false, false, false, false] (by kernel_rfl) rfl rfl ⟨(blk_cell BK416.out 0).trans rfl, (blk_cell BK416.out 1).trans rfl, (blk_cell BK416.out 2).trans rfl⟩ (fun hHeld => ?_); refine with_tabW sequiturref28_Tight.tab8 sequiturref28_Tight.bits8 (fun HT_ HW_ => ?_)
      generalize w27.drew = w29 at HO0_1 BK416 BK417 HK HB hHeld ⊢
      refine pure_ (i := 0) (N := some 28) (v := ?_) (a' := ?_) #[true, false, false, false, false, false, false, false, false] rfl rfl (any_of HT_.out (by kernel_rfl)) (fun _ _ _ h => h) (Or.inl ⟨by rfl, ?_⟩) ?_ ?_
      rotate_left
      ·intro w'
       go_simp
       with_reducible rfl
      rotate_left
      ·simp only [Act.put, List.setIfInBounds_toArray, List.set_cons_zero, List.set_cons_succ, i64_w, i32_w]
       rfl
      refine pure_ (i := 2) (N := some 30) (v := ?_) (a' := ?_) #[true, false, true, false, false, false, false, false, false] rfl rfl (any_of HT_.out (by kernel_rfl)) (fun _ _ _ h => h) (Or.inl ⟨by rfl, ?_⟩) ?_ ?_
      rotate_left
      ·intro w'
       go_simp
       with_reducible rfl
      rotate_left
      ·simp only [Act.put, List.setIfInBounds_toArray, List.set_cons_zero, List.set_cons_succ, i64_w, i32_w]
       rfl
      refine pure_ (i := 4) (N := some 32) (v := ?_) (a' := ?_) #[true, false, true, false, true, false, false, false, false] rfl rfl (any_of HT_.out (by kernel_rfl)) (fun _ _ _ h => h) (Or.inl ⟨by rfl, ?_⟩) ?_ ?_
      rotate_left
      ·intro w'
       go_simp
       with_reducible rfl
      rotate_left
      ·simp only [Act.put, List.setIfInBounds_toArray, List.set_cons_zero, List.set_cons_succ, i64_w, i32_w]
       rfl
      refine take_ (i := 1) (N := some 29) (v := ?_) (a' := ?_) #[true, true, true, false, true, false, false, false, false] rfl rfl (take_ofW HT_.out HW_.out (by kernel_rfl)) (fun _ _ _ h => h) (Or.inl ⟨by rfl, ?_⟩) hHeld ?_ ?_
      rotate_left
      ·rintro w' ⟨s0, s1, s2⟩
       go_simp
       with_reducible rfl
      rotate_left
      ·simp only [Act.put, List.setIfInBounds_toArray, List.set_cons_zero, List.set_cons_succ, i64_w, i32_w]
       rfl
      refine take_ (i := 5) (N := some 33) (v := ?_) (a' := ?_) #[true, true, true, false, true, true, false, false, false] rfl rfl (take_ofW HT_.out HW_.out (by kernel_rfl)) (fun _ _ _ h => h) (Or.inl ⟨by rfl, ?_⟩) hHeld ?_ ?_
      rotate_left
      ·rintro w' ⟨s0, s1, s2⟩
       go_simp
       with_reducible rfl
      rotate_left
      ·simp only [Act.put, List.setIfInBounds_toArray, List.set_cons_zero, List.set_cons_succ, i64_w, i32_w]
       rfl
      refine one_ (i := 3) (N := some 31) #[true, true, true, true, true, true, false, false, false] rfl rfl (one_of HT_.out (by kernel_rfl)) (by decide) (fun K hK => ?_)
      refine goes_ Try.func33 (by kernel_rfl) rfl #[.agg #[.int .i64 a0_0, .slice Ao20 l0_1.length co20], .int .i64 t419] (by rfl) rfl rfl (by (try simp only [List.map_toArray, List.map_cons, List.map_nil]); first | done | rfl | (simp only [List.length_drop, List.length_take]; rfl)) ?_
      with_reducible refine (sequiturref28_by.calls k a0_0 _ _ l0_1 t419 t420 t421 _ ?side1 ?side2 A19.out).mono ?_
      (case side1 => repeat (first | exact (Kd.V_reads' HO0_1.out).2.2 | (with_reducible refine cA ?_ _) | (with_reducible refine cN ?_ _) | (with_reducible refine cD ?_)))
      (case side2 => exact (Kd.V_reads' HO0_1.out).2.1)
      rintro e w30 ⟨v422, rfl, ho0, hb⟩
      refine ⟨_, rfl, ?_⟩
      replace HO0_1 := zK (Kd.V_below (zv HO0_1) hb)
      have HO423 := zK (Kd.R_lower ho0 (below_size (zo HB)))
      replace BK416 := zK (blk_below (g := gb416) (o := .cells #[.int .i64 a0_0, .slice Ao20 l0_1.length co20, .bool true] 30 (0, 0)) (zb BK416) hb)
      replace BK417 := zK (blk_below (g := gb417) (o := .cells #[.int .i64 0, .slice none 0 0, .bool false] 30 (0, 0)) (zb BK417) hb)
      replace HK := zK (Kept.below (S := (fun k_ => P0_1_ k_)) (by repeat (first | (with_reducible first | exact HK.out | apply Kept.alloc | apply Kept.drewN | apply Kept.drew | refine Kept.setCell ?_ (.inr GW416.out) _ | refine Kept.setCell ?_ (.inr GW417.out) _) | exact HK.out)) hb)
      replace HB := zK (below_step (zo HB) hb)
      (try clear hb)
      (try clear hb2)
      (try clear hk)
      (try clear hi)
      (try clear ho0)
      obtain ⟨Ao31, co31, eo31⟩ := Kd.R_slice HO423.out
      (first | subst eo31 | (injection eo31 with f1_ f2_ f3_; have f4_ := f1_.symm; have f5_ := f3_.symm; clear f1_ f2_ f3_; subst f4_; subst f5_))
      refine hK.out _ _ ⟨(blk_cell BK416.out 0).trans rfl, (blk_cell BK416.out 1).trans rfl, (blk_cell BK416.out 2).trans rfl⟩ (fun hHeld => ?_)
      clear hK K
      refine norm_ (a' := ?_) ?_ ?_
      rotate_left
      ·show Act.put _ (some 31) _ = _
       simp only [Act.put, List.setIfInBounds_toArray, List.set_cons_zero, List.set_cons_succ, i64_w, i32_w]
       rfl
      refine pure_ (i := 6) (N := some 34) (v := ?_) (a' := ?_) #[true, true, true, true, true, true, true, false, false] rfl rfl (any_of HT_.out (by kernel_rfl)) (fun _ _ _ h => h) (Or.inl ⟨by rfl, ?_⟩) ?_ ?_
      rotate_left
      ·intro w'
       go_simp
       with_reducible rfl
      rotate_left
      ·simp only [Act.put, List.setIfInBounds_toArray, List.set_cons_zero, List.set_cons_succ, i64_w, i32_w]
       rfl
      refine one_ (i := 7) (N := none) #[true, true, true, true, true, true, true, true, false] rfl rfl (one_of HT_.out (by kernel_rfl)) (by decide) (fun K hK => ?_)
      have hs32 : w30.cell? ⟨gb417, 0, none⟩ = some (.int .i64 0) := (blk_cell BK417.out 0).trans rfl
      have hfs32 := blk_frozen BK417.out 0
      have hns32_0 := NB416_417.out
      have hms32_0 := NB417_416.out
      have hs33 : w30.cell? ⟨gb417, 1, none⟩ = some (.slice none 0 0) := (blk_cell BK417.out 1).trans rfl
      have hfs33 := blk_frozen BK417.out 1
      have hns33_0 := NB416_417.out
      have hms33_0 := NB417_416.out
      have hs34 : w30.cell? ⟨gb417, 2, none⟩ = some (.bool false) := (blk_cell BK417.out 2).trans rfl
      have hfs34 := blk_frozen BK417.out 2
      have hns34_0 := NB416_417.out
      have hms34_0 := NB417_416.out
      refine skip_ (w1 := ?_) (by rfl) rfl ?_ ?_
      rotate_left
      ·go_simp
       rfl
      refine hK.out _ _ ⟨((cell_far (p := ⟨gb417, _, none⟩) NB416_417.out _).trans (((cell_far (p := ⟨gb417, _, none⟩) NB416_417.out _).trans (((cell_far (p := ⟨gb417, _, none⟩) NB416_417.out _).trans (hHeld.1)))))), ((cell_far (p := ⟨gb417, _, none⟩) NB416_417.out _).trans (((cell_far (p := ⟨gb417, _, none⟩) NB416_417.out _).trans (((cell_far (p := ⟨gb417, _, none⟩) NB416_417.out _).trans (hHeld.2.1)))))), ((cell_far (p := ⟨gb417, _, none⟩) NB416_417.out _).trans (((cell_far (p := ⟨gb417, _, none⟩) NB416_417.out _).trans (((cell_far (p := ⟨gb417, _, none⟩) NB416_417.out _).trans (hHeld.2.2))))))⟩ (fun hHeld => ?_)
      clear hK K
      refine pure_ (i := 8) (N := some 3) (v := ?_) (a' := ?_) #[true, true, true, true, true, true, true, true, true] rfl rfl (any_of HT_.out (by kernel_rfl)) (fun _ _ _ h => h) (Or.inl ⟨by rfl, ?_⟩) ?_ ?_
      rotate_left
      ·intro w'
       go_simp
       with_reducible rfl
      rotate_left
      ·simp only [Act.put, List.setIfInBounds_toArray, List.set_cons_zero, List.set_cons_succ, i64_w, i32_w]
       rfl
      refine done_ (done_of HT_.out (by kernel_rfl)) ?_
      try go_wp2
      refine bodyPost_ret (results_ct rfl _ _ gb417 30 #[.int .i64 t420, .slice Ao31 t421.length co31, .bool true] (0, 0) _ rfl (by refine zM ?_; refine blk_put (cs := #[.int .i64 t420, .slice Ao31 t421.length co31, .bool false]) ?_ 2 _ rfl; refine zM ?_; refine blk_put (cs := #[.int .i64 t420, .slice none 0 0, .bool false]) ?_ 1 _ rfl; refine zM ?_; refine blk_put (cs := #[.int .i64 0, .slice none 0 0, .bool false]) ?_ 0 _ rfl; refine zM ?_; exact BK417.out) Try.underlying30 rfl (by kernel_rfl)) rfl ?_
      exact ⟨_, by first | rfl | (simp [errW_none, errW_some] <;> rfl) | (simp [*, errW_none, errW_some] <;> rfl), vM (ok' := fun _ => True) (Kd.R_V (by (with_reducible repeat (first | apply Kd.R_alloc | apply Kd.R_drewN | apply Kd.R_drew)); exact Kd.R_mono (ok' := fun _ => True) (Kd.R_far (p := ⟨gb417, 2, none⟩) (Kd.R_far (p := ⟨gb417, 1, none⟩) (Kd.R_far (p := ⟨gb417, 0, none⟩) (Kd.R_types HO423.out BK417.out (by decide)) (fun _ hk => hk.2) (.int .i64 t420)) (fun _ hk => hk.2) (.slice Ao31 t421.length co31)) (fun _ hk => hk.2) (.bool true)) (fun _ _ => trivial))) (fun _ _ => trivial), zo HB⟩
     ·rw [if_neg c18] at H
      have c18b0 : ((Int.tmod a0_0 t419) == 0) = false := beq_eq_false_iff_ne.mpr c18
      have c18b1 : ((Int.tmod a0_0 t419) != 0) = true := bne_iff_ne.mpr c18
      simp only [Option.some.injEq, Prod.mk.injEq] at H
      obtain ⟨rfl, rfl, rfl, rfl⟩ := H
      obtain ⟨Ao35, co35, eo35⟩ := Kd.V_slice HO0_1.out
      subst eo35
      go_enter Try.func25, Try.ntmps25
      go_wp2_with (first | ((with_reducible refine gate_dst (N := 1) rfl ?_); refine box_event ?hg (N := 1) ?hd (cs := #[.int .i64 a0_0, .slice Ao35 l0_1.length co35, .bool true]) (t := 30) ?hr ?_; (case hd => rfl); (case hg => rfl); (case hr => first | (go_simp; done) | (go_simp; rfl)); intro gb416 hg w36 hbox hb; replace HO0_1 := zK (Kd.V_below (zv HO0_1) hb); have BK416 := zK (hbox); have GW416 := zK ((by rw [hg]; exact (by first | exact HK.out.1 | exact (show Kept w _ (fun k_ => P0_1_ k_) from by repeat (first | (with_reducible first | exact HK.out | apply Kept.alloc | apply Kept.drewN | apply Kept.drew) | exact HK.out)).1) : w.heap.size ≤ gb416)); replace HK := zK (Kept.below (S := (fun k_ => P0_1_ k_)) (by repeat (first | (with_reducible first | exact HK.out | apply Kept.alloc | apply Kept.drewN | apply Kept.drew) | exact HK.out)) hb); have GE416 := zK ((by rw [hg]; exact (below_size (zo HB)) : w.heap.size ≤ gb416)); replace HB := zK (below_step (zo HB) hb); clear hb hbox hg) | ((with_reducible refine gate_dst (N := 2) rfl ?_); refine box_event ?hg (N := 2) ?hd (cs := #[.int .i64 0, .slice none 0 0, .bool false]) (t := 30) ?hr ?_; (case hd => rfl); (case hg => rfl); (case hr => first | (go_simp; done) | (go_simp; rfl)); intro gb417 hg w37 hbox hb; replace HO0_1 := zK (Kd.V_below (zv HO0_1) hb); have BK417 := zK (hbox); have GW417 := zK ((by rw [hg]; exact (by first | exact HK.out.1 | exact (show Kept w _ (fun k_ => P0_1_ k_) from by repeat (first | (with_reducible first | exact HK.out | apply Kept.alloc | apply Kept.drewN | apply Kept.drew | refine Kept.setCell ?_ (.inr GW416.out) _) | exact HK.out)).1) : w.heap.size ≤ gb417)); replace HK := zK (Kept.below (S := (fun k_ => P0_1_ k_)) (by repeat (first | (with_reducible first | exact HK.out | apply Kept.alloc | apply Kept.drewN | apply Kept.drew | refine Kept.setCell ?_ (.inr GW416.out) _) | exact HK.out)) hb); have GE417 := zK ((by rw [hg]; exact (below_size (zo HB)) : w.heap.size ≤ gb417)); replace HB := zK (below_step (zo HB) hb); have NB416_417 := zK ((by rw [hg]; exact Nat.ne_of_lt (blk_lt (g := gb416) (o := .cells #[.int .i64 a0_0, .slice Ao35 l0_1.length co35, .bool true] 30 (0, 0)) (zb BK416)) : gb416 ≠ gb417)); have NB417_416 := zK ((by rw [hg]; exact Nat.ne_of_gt (blk_lt (g := gb416) (o := .cells #[.int .i64 a0_0, .slice Ao35 l0_1.length co35, .bool true] 30 (0, 0)) (zb BK416)) : gb417 ≠ gb416)); replace BK416 := zK (blk_below (g := gb416) (o := .cells #[.int .i64 a0_0, .slice Ao35 l0_1.length co35, .bool true] 30 (0, 0)) (zb BK416) hb); clear hb hbox hg; have hnb38 := NB416_417.out; have hnc38 := NB417_416.out; have hcz39_0 : w37.cell? ⟨gb416, 0, none⟩ = some (.int .i64 a0_0) := (blk_cell BK416.out 0).trans rfl; have hcz39_1 : w37.cell? ⟨gb416, 1, none⟩ = some (.slice Ao35 l0_1.length co35) := (blk_cell BK416.out 1).trans rfl; have hcz39_2 : w37.cell? ⟨gb416, 2, none⟩ = some (.bool true) := (blk_cell BK416.out 2).trans rfl; have hfz39_0 := blk_frozen BK416.out 0; have hfz39_1 := blk_frozen BK416.out 1; have hfz39_2 := blk_frozen BK416.out 2) | ((with_reducible refine zC (f := 17) rfl ?_); refine goesL_ (some 7) rfl rfl Try.func17 (by kernel_rfl) rfl #[.agg #[.int .i64 a0_0, .slice Ao35 l0_1.length co35]] rfl (by (try simp only [List.map_toArray, List.map_cons, List.map_nil]); first | done | rfl | (simp only [List.length_drop, List.length_take]; rfl)) ?_; (with_reducible refine (sequiturref28_Form.calls k a0_0 _ _ l0_1 true _ ?side1 ?side2 A2.out).mono ?_); (case side1 => repeat (first | exact (Kd.V_reads' HO0_1.out).2.2 | (with_reducible refine cA ?_ _) | (with_reducible refine cN ?_ _) | (with_reducible refine cD ?_))); (case side2 => exact (Kd.V_reads' HO0_1.out).2.1); rintro e w40 ⟨rfl, hb⟩; refine ⟨_, rfl, ?_⟩; replace HO0_1 := zK (Kd.V_below (zv HO0_1) hb); replace BK416 := zK (blk_below (g := gb416) (o := .cells #[.int .i64 a0_0, .slice Ao35 l0_1.length co35, .bool true] 30 (0, 0)) (zb BK416) hb); replace BK417 := zK (blk_below (g := gb417) (o := .cells #[.int .i64 0, .slice none 0 0, .bool false] 30 (0, 0)) (zb BK417) hb); replace HK := zK (Kept.below (S := (fun k_ => P0_1_ k_)) (by repeat (first | (with_reducible first | exact HK.out | apply Kept.alloc | apply Kept.drewN | apply Kept.drew | refine Kept.setCell ?_ (.inr GW416.out) _ | refine Kept.setCell ?_ (.inr GW417.out) _) | exact HK.out)) hb); replace HB := zK (below_step (zo HB) hb); (try clear hb); (try clear hb2); (try clear hk); (try clear hi); have hcz41_0 : w40.cell? ⟨gb416, 0, none⟩ = some (.int .i64 a0_0) := (blk_cell BK416.out 0).trans rfl; have hcz41_1 : w40.cell? ⟨gb416, 1, none⟩ = some (.slice Ao35 l0_1.length co35) := (blk_cell BK416.out 1).trans rfl; have hcz41_2 : w40.cell? ⟨gb416, 2, none⟩ = some (.bool true) := (blk_cell BK416.out 2).trans rfl; have hfz41_0 := blk_frozen BK416.out 0; have hfz41_1 := blk_frozen BK416.out 1; have hfz41_2 := blk_frozen BK416.out 2) | ((with_reducible refine zC (f := 43) rfl ?_); refine goesL_ (some 12) rfl rfl Try.func43 (by kernel_rfl) rfl #[.agg #[.int .i64 a0_0, .slice Ao35 l0_1.length co35]] rfl (by (try simp only [List.map_toArray, List.map_cons, List.map_nil]); first | done | rfl | (simp only [List.length_drop, List.length_take]; rfl)) ?_; (with_reducible refine (sequiturref28_Gcd.calls k a0_0 _ _ l0_1 t419 _ ?side1 ?side2 A4.out).mono ?_); (case side1 => repeat (first | exact (Kd.V_reads' HO0_1.out).2.2 | (with_reducible refine cA ?_ _) | (with_reducible refine cN ?_ _) | (with_reducible refine cD ?_))); (case side2 => exact (Kd.V_reads' HO0_1.out).2.1); rintro e w42 ⟨rfl, hb⟩; refine ⟨_, rfl, ?_⟩; replace HO0_1 := zK (Kd.V_below (zv HO0_1) hb); replace BK416 := zK (blk_below (g := gb416) (o := .cells #[.int .i64 a0_0, .slice Ao35 l0_1.length co35, .bool true] 30 (0, 0)) (zb BK416) hb); replace BK417 := zK (blk_below (g := gb417) (o := .cells #[.int .i64 0, .slice none 0 0, .bool false] 30 (0, 0)) (zb BK417) hb); replace HK := zK (Kept.below (S := (fun k_ => P0_1_ k_)) (by repeat (first | (with_reducible first | exact HK.out | apply Kept.alloc | apply Kept.drewN | apply Kept.drew | refine Kept.setCell ?_ (.inr GW416.out) _ | refine Kept.setCell ?_ (.inr GW417.out) _) | exact HK.out)) hb); replace HB := zK (below_step (zo HB) hb); (try clear hb); (try clear hb2); (try clear hk); (try clear hi); have hcz43_0 : w42.cell? ⟨gb416, 0, none⟩ = some (.int .i64 a0_0) := (blk_cell BK416.out 0).trans rfl; have hcz43_1 : w42.cell? ⟨gb416, 1, none⟩ = some (.slice Ao35 l0_1.length co35) := (blk_cell BK416.out 1).trans rfl; have hcz43_2 : w42.cell? ⟨gb416, 2, none⟩ = some (.bool true) := (blk_cell BK416.out 2).trans rfl; have hfz43_0 := blk_frozen BK416.out 0; have hfz43_1 := blk_frozen BK416.out 1; have hfz43_2 := blk_frozen BK416.out 2; have hcz44_0 : w42.cell? ⟨gb417, 0, none⟩ = some (.int .i64 0) := (blk_cell BK417.out 0).trans rfl; have hcz44_1 : w42.cell? ⟨gb417, 1, none⟩ = some (.slice none 0 0) := (blk_cell BK417.out 1).trans rfl; have hcz44_2 : w42.cell? ⟨gb417, 2, none⟩ = some (.bool false) := (blk_cell BK417.out 2).trans rfl; have hfz44_0 := blk_frozen BK417.out 0; have hfz44_1 := blk_frozen BK417.out 1; have hfz44_2 := blk_frozen BK417.out 2))
      refine bodyPost_ret (results_ct rfl _ _ gb417 30 #[.int .i64 1, .slice none 0 0, .bool true] (0, 0) _ rfl (by refine zM ?_; refine blk_put (cs := #[.int .i64 1, .slice none 0 0, .bool false]) ?_ 2 _ rfl; refine zM ?_; refine blk_put (cs := #[.int .i64 1, .slice none 0 0, .bool false]) ?_ 1 _ rfl; refine zM ?_; refine blk_put (cs := #[.int .i64 0, .slice none 0 0, .bool false]) ?_ 0 _ rfl; refine zM ?_; exact BK417.out) Try.underlying30 rfl (by kernel_rfl)) rfl ?_
      exact ⟨_, by first | rfl | (simp [errW_none, errW_some] <;> rfl) | (simp [*, errW_none, errW_some] <;> rfl), Kd.V_nil _ _ _ _ _, zo HB⟩
   ·replace c16 := Bool.eq_false_iff.mpr c16
    subst c16
    have H1 : ((sequiturref28_by.f k a0_0 l0_1 t419).bind fun bt424 => (some (bt424.1, bt424.2, false, 0))) = some (r1, r2, r3, r4) := by rw [if_neg (show ¬ (false = true) by decide)] at H; exact H
    clear H
    have H := H1
    clear H1
    replace H := Option.bind_eq_some_iff.mp H
    obtain ⟨⟨t424, t425⟩, A450, H⟩ := H
    replace H : (some (t424, t425, false, 0)) = some (r1, r2, r3, r4) := H
    have A45 := zK A450
    clear A450
    simp only [Option.some.injEq, Prod.mk.injEq] at H
    obtain ⟨rfl, rfl, rfl, rfl⟩ := H
    obtain ⟨Ao46, co46, eo46⟩ := Kd.V_slice HO0_1.out
    subst eo46
    go_enter Try.func25, Try.ntmps25
    try go_wp2_with (first | ((with_reducible refine gate_dst (N := 1) rfl ?_); refine box_event ?hg (N := 1) ?hd (cs := #[.int .i64 a0_0, .slice Ao46 l0_1.length co46, .bool false]) (t := 30) ?hr ?_; (case hd => rfl); (case hg => rfl); (case hr => first | (go_simp; done) | (go_simp; rfl)); intro gb416 hg w47 hbox hb; replace HO0_1 := zK (Kd.V_below (zv HO0_1) hb); have BK416 := zK (hbox); have GW416 := zK ((by rw [hg]; exact (by first | exact HK.out.1 | exact (show Kept w _ (fun k_ => P0_1_ k_) from by repeat (first | (with_reducible first | exact HK.out | apply Kept.alloc | apply Kept.drewN | apply Kept.drew) | exact HK.out)).1) : w.heap.size ≤ gb416)); replace HK := zK (Kept.below (S := (fun k_ => P0_1_ k_)) (by repeat (first | (with_reducible first | exact HK.out | apply Kept.alloc | apply Kept.drewN | apply Kept.drew) | exact HK.out)) hb); have GE416 := zK ((by rw [hg]; exact (below_size (zo HB)) : w.heap.size ≤ gb416)); replace HB := zK (below_step (zo HB) hb); clear hb hbox hg) | ((with_reducible refine gate_dst (N := 2) rfl ?_); refine box_event ?hg (N := 2) ?hd (cs := #[.int .i64 0, .slice none 0 0, .bool false]) (t := 30) ?hr ?_; (case hd => rfl); (case hg => rfl); (case hr => first | (go_simp; done) | (go_simp; rfl)); intro gb417 hg w48 hbox hb; replace HO0_1 := zK (Kd.V_below (zv HO0_1) hb); have BK417 := zK (hbox); have GW417 := zK ((by rw [hg]; exact (by first | exact HK.out.1 | exact (show Kept w _ (fun k_ => P0_1_ k_) from by repeat (first | (with_reducible first | exact HK.out | apply Kept.alloc | apply Kept.drewN | apply Kept.drew | refine Kept.setCell ?_ (.inr GW416.out) _) | exact HK.out)).1) : w.heap.size ≤ gb417)); replace HK := zK (Kept.below (S := (fun k_ => P0_1_ k_)) (by repeat (first | (with_reducible first | exact HK.out | apply Kept.alloc | apply Kept.drewN | apply Kept.drew | refine Kept.setCell ?_ (.inr GW416.out) _) | exact HK.out)) hb); have GE417 := zK ((by rw [hg]; exact (below_size (zo HB)) : w.heap.size ≤ gb417)); replace HB := zK (below_step (zo HB) hb); have NB416_417 := zK ((by rw [hg]; exact Nat.ne_of_lt (blk_lt (g := gb416) (o := .cells #[.int .i64 a0_0, .slice Ao46 l0_1.length co46, .bool false] 30 (0, 0)) (zb BK416)) : gb416 ≠ gb417)); have NB417_416 := zK ((by rw [hg]; exact Nat.ne_of_gt (blk_lt (g := gb416) (o := .cells #[.int .i64 a0_0, .slice Ao46 l0_1.length co46, .bool false] 30 (0, 0)) (zb BK416)) : gb417 ≠ gb416)); replace BK416 := zK (blk_below (g := gb416) (o := .cells #[.int .i64 a0_0, .slice Ao46 l0_1.length co46, .bool false] 30 (0, 0)) (zb BK416) hb); clear hb hbox hg; have hnb49 := NB416_417.out; have hnc49 := NB417_416.out; have hcz50_0 : w48.cell? ⟨gb416, 0, none⟩ = some (.int .i64 a0_0) := (blk_cell BK416.out 0).trans rfl; have hcz50_1 : w48.cell? ⟨gb416, 1, none⟩ = some (.slice Ao46 l0_1.length co46) := (blk_cell BK416.out 1).trans rfl; have hcz50_2 : w48.cell? ⟨gb416, 2, none⟩ = some (.bool false) := (blk_cell BK416.out 2).trans rfl; have hfz50_0 := blk_frozen BK416.out 0; have hfz50_1 := blk_frozen BK416.out 1; have hfz50_2 := blk_frozen BK416.out 2) | ((with_reducible refine zC (f := 17) rfl ?_); refine goesL_ (some 7) rfl rfl Try.func17 (by kernel_rfl) rfl #[.agg #[.int .i64 a0_0, .slice Ao46 l0_1.length co46]] rfl (by (try simp only [List.map_toArray, List.map_cons, List.map_nil]); first | done | rfl | (simp only [List.length_drop, List.length_take]; rfl)) ?_; (with_reducible refine (sequiturref28_Form.calls k a0_0 _ _ l0_1 true _ ?side1 ?side2 A2.out).mono ?_); (case side1 => repeat (first | exact (Kd.V_reads' HO0_1.out).2.2 | (with_reducible refine cA ?_ _) | (with_reducible refine cN ?_ _) | (with_reducible refine cD ?_))); (case side2 => exact (Kd.V_reads' HO0_1.out).2.1); rintro e w51 ⟨rfl, hb⟩; refine ⟨_, rfl, ?_⟩; replace HO0_1 := zK (Kd.V_below (zv HO0_1) hb); replace BK416 := zK (blk_below (g := gb416) (o := .cells #[.int .i64 a0_0, .slice Ao46 l0_1.length co46, .bool false] 30 (0, 0)) (zb BK416) hb); replace BK417 := zK (blk_below (g := gb417) (o := .cells #[.int .i64 0, .slice none 0 0, .bool false] 30 (0, 0)) (zb BK417) hb); replace HK := zK (Kept.below (S := (fun k_ => P0_1_ k_)) (by repeat (first | (with_reducible first | exact HK.out | apply Kept.alloc | apply Kept.drewN | apply Kept.drew | refine Kept.setCell ?_ (.inr GW416.out) _ | refine Kept.setCell ?_ (.inr GW417.out) _) | exact HK.out)) hb); replace HB := zK (below_step (zo HB) hb); (try clear hb); (try clear hb2); (try clear hk); (try clear hi); have hcz52_0 : w51.cell? ⟨gb416, 0, none⟩ = some (.int .i64 a0_0) := (blk_cell BK416.out 0).trans rfl; have hcz52_1 : w51.cell? ⟨gb416, 1, none⟩ = some (.slice Ao46 l0_1.length co46) := (blk_cell BK416.out 1).trans rfl; have hcz52_2 : w51.cell? ⟨gb416, 2, none⟩ = some (.bool false) := (blk_cell BK416.out 2).trans rfl; have hfz52_0 := blk_frozen BK416.out 0; have hfz52_1 := blk_frozen BK416.out 1; have hfz52_2 := blk_frozen BK416.out 2) | ((with_reducible refine zC (f := 43) rfl ?_); refine goesL_ (some 12) rfl rfl Try.func43 (by kernel_rfl) rfl #[.agg #[.int .i64 a0_0, .slice Ao46 l0_1.length co46]] rfl (by (try simp only [List.map_toArray, List.map_cons, List.map_nil]); first | done | rfl | (simp only [List.length_drop, List.length_take]; rfl)) ?_; (with_reducible refine (sequiturref28_Gcd.calls k a0_0 _ _ l0_1 t419 _ ?side1 ?side2 A4.out).mono ?_); (case side1 => repeat (first | exact (Kd.V_reads' HO0_1.out).2.2 | (with_reducible refine cA ?_ _) | (with_reducible refine cN ?_ _) | (with_reducible refine cD ?_))); (case side2 => exact (Kd.V_reads' HO0_1.out).2.1); rintro e w53 ⟨rfl, hb⟩; refine ⟨_, rfl, ?_⟩; replace HO0_1 := zK (Kd.V_below (zv HO0_1) hb); replace BK416 := zK (blk_below (g := gb416) (o := .cells #[.int .i64 a0_0, .slice Ao46 l0_1.length co46, .bool false] 30 (0, 0)) (zb BK416) hb); replace BK417 := zK (blk_below (g := gb417) (o := .cells #[.int .i64 0, .slice none 0 0, .bool false] 30 (0, 0)) (zb BK417) hb); replace HK := zK (Kept.below (S := (fun k_ => P0_1_ k_)) (by repeat (first | (with_reducible first | exact HK.out | apply Kept.alloc | apply Kept.drewN | apply Kept.drew | refine Kept.setCell ?_ (.inr GW416.out) _ | refine Kept.setCell ?_ (.inr GW417.out) _) | exact HK.out)) hb); replace HB := zK (below_step (zo HB) hb); (try clear hb); (try clear hb2); (try clear hk); (try clear hi); have hcz54_0 : w53.cell? ⟨gb416, 0, none⟩ = some (.int .i64 a0_0) := (blk_cell BK416.out 0).trans rfl; have hcz54_1 : w53.cell? ⟨gb416, 1, none⟩ = some (.slice Ao46 l0_1.length co46) := (blk_cell BK416.out 1).trans rfl; have hcz54_2 : w53.cell? ⟨gb416, 2, none⟩ = some (.bool false) := (blk_cell BK416.out 2).trans rfl; have hfz54_0 := blk_frozen BK416.out 0; have hfz54_1 := blk_frozen BK416.out 1; have hfz54_2 := blk_frozen BK416.out 2))
    replace HO0_1 := zK (vD HO0_1.out)
    replace BK416 := zK (zD BK416.out)
    replace BK417 := zK (zD BK417.out)
    replace HK := zK (Kept.drew HK.out)
    replace HB := zK (yD HB.out)
    refine start_ (n := 9) (S := fun w' => w'.cell? ⟨gb416, 0, none⟩ = some (.int .i64 a0_0) ∧ w'.cell? ⟨gb416, 1, none⟩ = some (.slice Ao46 l0_1.length co46) ∧ w'.cell? ⟨gb416, 2, none⟩ = some (.bool false)) (ds := []) #[false, false, false, false, false, false, false, false, false] (by kernel_rfl) rfl rfl ⟨(blk_cell BK416.out 0).trans rfl, (blk_cell BK416.out 1).trans rfl, (blk_cell BK416.out 2).trans rfl⟩ (fun hHeld => ?_); refine with_tabW sequiturref28_Tight.tab8 sequiturref28_Tight.bits8 (fun HT_ HW_ => ?_)
    generalize w53.drew = w55 at HO0_1 BK416 BK417 HK HB hHeld ⊢
    refine pure_ (i := 0) (N := some 28) (v := ?_) (a' := ?_) #[true, false, false, false, false, false, false, false, false] rfl rfl (any_of HT_.out (by kernel_rfl)) (fun _ _ _ h => h) (Or.inl ⟨by rfl, ?_⟩) ?_ ?_
    rotate_left
    ·intro w'
     go_simp
     with_reducible rfl
    rotate_left
    ·simp only [Act.put, List.setIfInBounds_toArray, List.set_cons_zero, List.set_cons_succ, i64_w, i32_w]
     rfl
    refine pure_ (i := 2) (N := some 30) (v := ?_) (a' := ?_) #[true, false, true, false, false, false, false, false, false] rfl rfl (any_of HT_.out (by kernel_rfl)) (fun _ _ _ h => h) (Or.inl ⟨by rfl, ?_⟩) ?_ ?_
    rotate_left
    ·intro w'
     go_simp
     with_reducible rfl
    rotate_left
    ·simp only [Act.put, List.setIfInBounds_toArray, List.set_cons_zero, List.set_cons_succ, i64_w, i32_w]
     rfl
    refine pure_ (i := 4) (N := some 32) (v := ?_) (a' := ?_) #[true, false, true, false, true, false, false, false, false] rfl rfl (any_of HT_.out (by kernel_rfl)) (fun _ _ _ h => h) (Or.inl ⟨by rfl, ?_⟩) ?_ ?_
    rotate_left
    ·intro w'
     go_simp
     with_reducible rfl
    rotate_left
    ·simp only [Act.put, List.setIfInBounds_toArray, List.set_cons_zero, List.set_cons_succ, i64_w, i32_w]
     rfl
    refine take_ (i := 1) (N := some 29) (v := ?_) (a' := ?_) #[true, true, true, false, true, false, false, false, false] rfl rfl (take_ofW HT_.out HW_.out (by kernel_rfl)) (fun _ _ _ h => h) (Or.inl ⟨by rfl, ?_⟩) hHeld ?_ ?_
    rotate_left
    ·rintro w' ⟨s0, s1, s2⟩
     go_simp
     with_reducible rfl
    rotate_left
    ·simp only [Act.put, List.setIfInBounds_toArray, List.set_cons_zero, List.set_cons_succ, i64_w, i32_w]
     rfl
    refine take_ (i := 5) (N := some 33) (v := ?_) (a' := ?_) #[true, true, true, false, true, true, false, false, false] rfl rfl (take_ofW HT_.out HW_.out (by kernel_rfl)) (fun _ _ _ h => h) (Or.inl ⟨by rfl, ?_⟩) hHeld ?_ ?_
    rotate_left
    ·rintro w' ⟨s0, s1, s2⟩
     go_simp
     with_reducible rfl
    rotate_left
    ·simp only [Act.put, List.setIfInBounds_toArray, List.set_cons_zero, List.set_cons_succ, i64_w, i32_w]
     rfl
    refine one_ (i := 3) (N := some 31) #[true, true, true, true, true, true, false, false, false] rfl rfl (one_of HT_.out (by kernel_rfl)) (by decide) (fun K hK => ?_)
    refine goes_ Try.func33 (by kernel_rfl) rfl #[.agg #[.int .i64 a0_0, .slice Ao46 l0_1.length co46], .int .i64 t419] (by rfl) rfl rfl (by (try simp only [List.map_toArray, List.map_cons, List.map_nil]); first | done | rfl | (simp only [List.length_drop, List.length_take]; rfl)) ?_
    with_reducible refine (sequiturref28_by.calls k a0_0 _ _ l0_1 t419 t424 t425 _ ?side1 ?side2 A45.out).mono ?_
    (case side1 => repeat (first | exact (Kd.V_reads' HO0_1.out).2.2 | (with_reducible refine cA ?_ _) | (with_reducible refine cN ?_ _) | (with_reducible refine cD ?_)))
    (case side2 => exact (Kd.V_reads' HO0_1.out).2.1)
    rintro e w56 ⟨v426, rfl, ho0, hb⟩
    refine ⟨_, rfl, ?_⟩
    replace HO0_1 := zK (Kd.V_below (zv HO0_1) hb)
    have HO427 := zK (Kd.R_lower ho0 (below_size (zo HB)))
    replace BK416 := zK (blk_below (g := gb416) (o := .cells #[.int .i64 a0_0, .slice Ao46 l0_1.length co46, .bool false] 30 (0, 0)) (zb BK416) hb)
    replace BK417 := zK (blk_below (g := gb417) (o := .cells #[.int .i64 0, .slice none 0 0, .bool false] 30 (0, 0)) (zb BK417) hb)
    replace HK := zK (Kept.below (S := (fun k_ => P0_1_ k_)) (by repeat (first | (with_reducible first | exact HK.out | apply Kept.alloc | apply Kept.drewN | apply Kept.drew | refine Kept.setCell ?_ (.inr GW416.out) _ | refine Kept.setCell ?_ (.inr GW417.out) _) | exact HK.out)) hb)
    replace HB := zK (below_step (zo HB) hb)
    (try clear hb)
    (try clear hb2)
    (try clear hk)
    (try clear hi)
    (try clear ho0)
    obtain ⟨Ao57, co57, eo57⟩ := Kd.R_slice HO427.out
    (first | subst eo57 | (injection eo57 with f1_ f2_ f3_; have f4_ := f1_.symm; have f5_ := f3_.symm; clear f1_ f2_ f3_; subst f4_; subst f5_))
    refine hK.out _ _ ⟨(blk_cell BK416.out 0).trans rfl, (blk_cell BK416.out 1).trans rfl, (blk_cell BK416.out 2).trans rfl⟩ (fun hHeld => ?_)
    clear hK K
    refine norm_ (a' := ?_) ?_ ?_
    rotate_left
    ·show Act.put _ (some 31) _ = _
     simp only [Act.put, List.setIfInBounds_toArray, List.set_cons_zero, List.set_cons_succ, i64_w, i32_w]
     rfl
    refine pure_ (i := 6) (N := some 34) (v := ?_) (a' := ?_) #[true, true, true, true, true, true, true, false, false] rfl rfl (any_of HT_.out (by kernel_rfl)) (fun _ _ _ h => h) (Or.inl ⟨by rfl, ?_⟩) ?_ ?_
    rotate_left
    ·intro w'
     go_simp
     with_reducible rfl
    rotate_left
    ·simp only [Act.put, List.setIfInBounds_toArray, List.set_cons_zero, List.set_cons_succ, i64_w, i32_w]
     rfl
    refine one_ (i := 7) (N := none) #[true, true, true, true, true, true, true, true, false] rfl rfl (one_of HT_.out (by kernel_rfl)) (by decide) (fun K hK => ?_)
    have hs58 : w56.cell? ⟨gb417, 0, none⟩ = some (.int .i64 0) := (blk_cell BK417.out 0).trans rfl
    have hfs58 := blk_frozen BK417.out 0
    have hns58_0 := NB416_417.out
    have hms58_0 := NB417_416.out
    have hs59 : w56.cell? ⟨gb417, 1, none⟩ = some (.slice none 0 0) := (blk_cell BK417.out 1).trans rfl
    have hfs59 := blk_frozen BK417.out 1
    have hns59_0 := NB416_417.out
    have hms59_0 := NB417_416.out
    have hs60 : w56.cell? ⟨gb417, 2, none⟩ = some (.bool false) := (blk_cell BK417.out 2).trans rfl
    have hfs60 := blk_frozen BK417.out 2
    have hns60_0 := NB416_417.out
    have hms60_0 := NB417_416.out
    refine skip_ (w1 := ?_) (by rfl) rfl ?_ ?_
    rotate_left
    ·go_simp
     rfl
    refine hK.out _ _ ⟨((cell_far (p := ⟨gb417, _, none⟩) NB416_417.out _).trans (((cell_far (p := ⟨gb417, _, none⟩) NB416_417.out _).trans (((cell_far (p := ⟨gb417, _, none⟩) NB416_417.out _).trans (hHeld.1)))))), ((cell_far (p := ⟨gb417, _, none⟩) NB416_417.out _).trans (((cell_far (p := ⟨gb417, _, none⟩) NB416_417.out _).trans (((cell_far (p := ⟨gb417, _, none⟩) NB416_417.out _).trans (hHeld.2.1)))))), ((cell_far (p := ⟨gb417, _, none⟩) NB416_417.out _).trans (((cell_far (p := ⟨gb417, _, none⟩) NB416_417.out _).trans (((cell_far (p := ⟨gb417, _, none⟩) NB416_417.out _).trans (hHeld.2.2))))))⟩ (fun hHeld => ?_)
    clear hK K
    refine pure_ (i := 8) (N := some 3) (v := ?_) (a' := ?_) #[true, true, true, true, true, true, true, true, true] rfl rfl (any_of HT_.out (by kernel_rfl)) (fun _ _ _ h => h) (Or.inl ⟨by rfl, ?_⟩) ?_ ?_
    rotate_left
    ·intro w'
     go_simp
     with_reducible rfl
    rotate_left
    ·simp only [Act.put, List.setIfInBounds_toArray, List.set_cons_zero, List.set_cons_succ, i64_w, i32_w]
     rfl
    refine done_ (done_of HT_.out (by kernel_rfl)) ?_
    try go_wp2
    refine bodyPost_ret (results_ct rfl _ _ gb417 30 #[.int .i64 t424, .slice Ao57 t425.length co57, .bool false] (0, 0) _ rfl (by refine zM ?_; refine blk_put (cs := #[.int .i64 t424, .slice Ao57 t425.length co57, .bool false]) ?_ 2 _ rfl; refine zM ?_; refine blk_put (cs := #[.int .i64 t424, .slice none 0 0, .bool false]) ?_ 1 _ rfl; refine zM ?_; refine blk_put (cs := #[.int .i64 0, .slice none 0 0, .bool false]) ?_ 0 _ rfl; refine zM ?_; exact BK417.out) Try.underlying30 rfl (by kernel_rfl)) rfl ?_
    exact ⟨_, by first | rfl | (simp [errW_none, errW_some] <;> rfl) | (simp [*, errW_none, errW_some] <;> rfl), vM (ok' := fun _ => True) (Kd.R_V (by (with_reducible repeat (first | apply Kd.R_alloc | apply Kd.R_drewN | apply Kd.R_drew)); exact Kd.R_mono (ok' := fun _ => True) (Kd.R_far (p := ⟨gb417, 2, none⟩) (Kd.R_far (p := ⟨gb417, 1, none⟩) (Kd.R_far (p := ⟨gb417, 0, none⟩) (Kd.R_types HO427.out BK417.out (by decide)) (fun _ hk => hk.2) (.int .i64 t424)) (fun _ hk => hk.2) (.slice Ao57 t425.length co57)) (fun _ hk => hk.2) (.bool false)) (fun _ _ => trivial))) (fun _ _ => trivial), zo HB⟩
 ·replace c3 := Bool.eq_false_iff.mpr c3
  subst c3
  have H1 : (some (0, ([] : List (S47)), false, 1)) = some (r1, r2, r3, r4) := by rw [if_neg (show ¬ (false = true) by decide)] at H; exact H
  clear H
  have H := H1
  clear H1
  simp only [Option.some.injEq, Prod.mk.injEq] at H
  obtain ⟨rfl, rfl, rfl, rfl⟩ := H
  obtain ⟨Ao61, co61, eo61⟩ := Kd.V_slice HO0_1.out
  subst eo61
  go_enter Try.func25, Try.ntmps25
  go_wp2_with (first | ((with_reducible refine gate_dst (N := 1) rfl ?_); refine box_event ?hg (N := 1) ?hd (cs := #[.int .i64 a0_0, .slice Ao61 l0_1.length co61, .bool a0_2]) (t := 30) ?hr ?_; (case hd => rfl); (case hg => rfl); (case hr => first | (go_simp; done) | (go_simp; rfl)); intro gb416 hg w62 hbox hb; replace HO0_1 := zK (Kd.V_below (zv HO0_1) hb); have BK416 := zK (hbox); have GW416 := zK ((by rw [hg]; exact (by first | exact HK.out.1 | exact (show Kept w _ (fun k_ => P0_1_ k_) from by repeat (first | (with_reducible first | exact HK.out | apply Kept.alloc | apply Kept.drewN | apply Kept.drew) | exact HK.out)).1) : w.heap.size ≤ gb416)); replace HK := zK (Kept.below (S := (fun k_ => P0_1_ k_)) (by repeat (first | (with_reducible first | exact HK.out | apply Kept.alloc | apply Kept.drewN | apply Kept.drew) | exact HK.out)) hb); have GE416 := zK ((by rw [hg]; exact (below_size (zo HB)) : w.heap.size ≤ gb416)); replace HB := zK (below_step (zo HB) hb); clear hb hbox hg) | ((with_reducible refine gate_dst (N := 2) rfl ?_); refine box_event ?hg (N := 2) ?hd (cs := #[.int .i64 0, .slice none 0 0, .bool false]) (t := 30) ?hr ?_; (case hd => rfl); (case hg => rfl); (case hr => first | (go_simp; done) | (go_simp; rfl)); intro gb417 hg w63 hbox hb; replace HO0_1 := zK (Kd.V_below (zv HO0_1) hb); have BK417 := zK (hbox); have GW417 := zK ((by rw [hg]; exact (by first | exact HK.out.1 | exact (show Kept w _ (fun k_ => P0_1_ k_) from by repeat (first | (with_reducible first | exact HK.out | apply Kept.alloc | apply Kept.drewN | apply Kept.drew | refine Kept.setCell ?_ (.inr GW416.out) _) | exact HK.out)).1) : w.heap.size ≤ gb417)); replace HK := zK (Kept.below (S := (fun k_ => P0_1_ k_)) (by repeat (first | (with_reducible first | exact HK.out | apply Kept.alloc | apply Kept.drewN | apply Kept.drew | refine Kept.setCell ?_ (.inr GW416.out) _) | exact HK.out)) hb); have GE417 := zK ((by rw [hg]; exact (below_size (zo HB)) : w.heap.size ≤ gb417)); replace HB := zK (below_step (zo HB) hb); have NB416_417 := zK ((by rw [hg]; exact Nat.ne_of_lt (blk_lt (g := gb416) (o := .cells #[.int .i64 a0_0, .slice Ao61 l0_1.length co61, .bool a0_2] 30 (0, 0)) (zb BK416)) : gb416 ≠ gb417)); have NB417_416 := zK ((by rw [hg]; exact Nat.ne_of_gt (blk_lt (g := gb416) (o := .cells #[.int .i64 a0_0, .slice Ao61 l0_1.length co61, .bool a0_2] 30 (0, 0)) (zb BK416)) : gb417 ≠ gb416)); replace BK416 := zK (blk_below (g := gb416) (o := .cells #[.int .i64 a0_0, .slice Ao61 l0_1.length co61, .bool a0_2] 30 (0, 0)) (zb BK416) hb); clear hb hbox hg; have hnb64 := NB416_417.out; have hnc64 := NB417_416.out; have hcz65_0 : w63.cell? ⟨gb416, 0, none⟩ = some (.int .i64 a0_0) := (blk_cell BK416.out 0).trans rfl; have hcz65_1 : w63.cell? ⟨gb416, 1, none⟩ = some (.slice Ao61 l0_1.length co61) := (blk_cell BK416.out 1).trans rfl; have hcz65_2 : w63.cell? ⟨gb416, 2, none⟩ = some (.bool a0_2) := (blk_cell BK416.out 2).trans rfl; have hfz65_0 := blk_frozen BK416.out 0; have hfz65_1 := blk_frozen BK416.out 1; have hfz65_2 := blk_frozen BK416.out 2) | ((with_reducible refine zC (f := 17) rfl ?_); refine goesL_ (some 7) rfl rfl Try.func17 (by kernel_rfl) rfl #[.agg #[.int .i64 a0_0, .slice Ao61 l0_1.length co61]] rfl (by (try simp only [List.map_toArray, List.map_cons, List.map_nil]); first | done | rfl | (simp only [List.length_drop, List.length_take]; rfl)) ?_; (with_reducible refine (sequiturref28_Form.calls k a0_0 _ _ l0_1 false _ ?side1 ?side2 A2.out).mono ?_); (case side1 => repeat (first | exact (Kd.V_reads' HO0_1.out).2.2 | (with_reducible refine cA ?_ _) | (with_reducible refine cN ?_ _) | (with_reducible refine cD ?_))); (case side2 => exact (Kd.V_reads' HO0_1.out).2.1); rintro e w66 ⟨rfl, hb⟩; refine ⟨_, rfl, ?_⟩; replace HO0_1 := zK (Kd.V_below (zv HO0_1) hb); replace BK416 := zK (blk_below (g := gb416) (o := .cells #[.int .i64 a0_0, .slice Ao61 l0_1.length co61, .bool a0_2] 30 (0, 0)) (zb BK416) hb); replace BK417 := zK (blk_below (g := gb417) (o := .cells #[.int .i64 0, .slice none 0 0, .bool false] 30 (0, 0)) (zb BK417) hb); replace HK := zK (Kept.below (S := (fun k_ => P0_1_ k_)) (by repeat (first | (with_reducible first | exact HK.out | apply Kept.alloc | apply Kept.drewN | apply Kept.drew | refine Kept.setCell ?_ (.inr GW416.out) _ | refine Kept.setCell ?_ (.inr GW417.out) _) | exact HK.out)) hb); replace HB := zK (below_step (zo HB) hb); (try clear hb); (try clear hb2); (try clear hk); (try clear hi); have hcz67_0 : w66.cell? ⟨gb417, 0, none⟩ = some (.int .i64 0) := (blk_cell BK417.out 0).trans rfl; have hcz67_1 : w66.cell? ⟨gb417, 1, none⟩ = some (.slice none 0 0) := (blk_cell BK417.out 1).trans rfl; have hcz67_2 : w66.cell? ⟨gb417, 2, none⟩ = some (.bool false) := (blk_cell BK417.out 2).trans rfl; have hfz67_0 := blk_frozen BK417.out 0; have hfz67_1 := blk_frozen BK417.out 1; have hfz67_2 := blk_frozen BK417.out 2))
  refine bodyPost_ret (results_ct rfl _ _ gb417 30 #[.int .i64 0, .slice none 0 0, .bool false] (0, 0) _ rfl (by refine zM ?_; refine blk_put (cs := #[.int .i64 0, .slice none 0 0, .bool false]) ?_ 2 _ rfl; refine zM ?_; refine blk_put (cs := #[.int .i64 0, .slice none 0 0, .bool false]) ?_ 1 _ rfl; refine zM ?_; refine blk_put (cs := #[.int .i64 0, .slice none 0 0, .bool false]) ?_ 0 _ rfl; refine zM ?_; exact BK417.out) Try.underlying30 rfl (by kernel_rfl)) rfl ?_
  exact ⟨_, by first | rfl | (simp [errW_none, errW_some] <;> rfl) | (simp [*, errW_none, errW_some] <;> rfl), Kd.V_nil _ _ _ _ _, zo HB⟩

theorem sequiturref28_Tight.calls (k : Nat) (a0_0 : Int) (A0_1 : Option Addr) (c0_1 : Nat) (l0_1 : List (S47)) (a0_2 : Bool) (r1 : Int) (r2 : List (S47)) (r3 : Bool) (r4 : Int) (w : World) (hr0_1 : Kd.C k47 w A0_1 l0_1.length l0_1) (hc0_1 : l0_1.length ≤ c0_1) (h : sequiturref28_Tight.f k a0_0 l0_1 a0_2 = some (r1, r2, r3, r4)) :
  Calls Try.prog 25 #[.agg #[.int .i64 a0_0, .slice A0_1 l0_1.length c0_1, .bool a0_2]] w fun e w' => ∃ v1_ : Value, e = .returned (.tuple #[.agg #[.int .i64 r1, v1_, .bool r3], .int .i64 r4]) ∧ Kd.V k47 47 w' w.heap.size (fun _ => True) v1_ r2 ∧ Below w.heap.size w w' :=
 sequiturref28_Tight.calls_ k a0_0 _ l0_1 a0_2 r1 r2 r3 r4 w (vM (Kd.V_mk hc0_1 (Kd.C_F (Kd.heap_iso _ (Kd.heap_pair (Kd.heap_int .i64) (Kd.heap_int .i64))) hr0_1)) (fun _ _ => trivial)) h

/-! ### ineq_Same_1: function 45 -/
def ineq_Same_1.f (a0_0 : Int) (a0_1 : Int) (a1_0 : Int) (a1_1 : Int) : Option (Bool) := some (a0_0 == a1_0 && (a0_1 == a1_1))
set_option maxHeartbeats 8000000 in
set_option maxRecDepth 100000 in
theorem ineq_Same_1.calls (a0_0 : Int) (a0_1 : Int) (a1_0 : Int) (a1_1 : Int) (r : Bool) (w : World) (h : ineq_Same_1.f a0_0 a0_1 a1_0 a1_1 = some r) :
  Calls Try.prog 45 #[.agg #[.int .i64 a0_0, .int .i64 a0_1], .agg #[.int .i64 a1_0, .int .i64 a1_1]] w fun e w' => e = .returned (.bool r) ∧ Below w.heap.size w w' := by
 have hu47 := Try.underlying47
 have HB := zK (Below.refl w.heap.size w)
 have H : (some (a0_0 == a1_0 && (a0_1 == a1_1))) = some r := h
 clear h
 obtain rfl := Option.some.inj H
 go_enter Try.func45, Try.ntmps45
 go_wp2_with (first | ((with_reducible refine gate_dst (N := 2) rfl ?_); refine box_event ?hg (N := 2) ?hd (cs := #[.int .i64 a0_0, .int .i64 a0_1]) (t := 47) ?hr ?_; (case hd => rfl); (case hg => rfl); (case hr => first | (go_simp; done) | (go_simp; rfl)); intro gb416 hg w3 hbox hb; have BK416 := zK (hbox); have GW416 := zK ((by rw [hg]; exact (below_size (zo HB)) : w.heap.size ≤ gb416)); have GE416 := zK ((by rw [hg]; exact (below_size (zo HB)) : w.heap.size ≤ gb416)); replace HB := zK (below_step (zo HB) hb); clear hb hbox hg) | ((with_reducible refine gate_dst (N := 3) rfl ?_); refine box_event ?hg (N := 3) ?hd (cs := #[.int .i64 a1_0, .int .i64 a1_1]) (t := 47) ?hr ?_; (case hd => rfl); (case hg => rfl); (case hr => first | (go_simp; done) | (go_simp; rfl)); intro gb417 hg w4 hbox hb; have BK417 := zK (hbox); have GW417 := zK ((by rw [hg]; exact (below_size (zo HB)) : w.heap.size ≤ gb417)); have GE417 := zK ((by rw [hg]; exact (below_size (zo HB)) : w.heap.size ≤ gb417)); replace HB := zK (below_step (zo HB) hb); have NB416_417 := zK ((by rw [hg]; exact Nat.ne_of_lt (blk_lt (g := gb416) (o := .cells #[.int .i64 a0_0, .int .i64 a0_1] 47 (0, 0)) (zb BK416)) : gb416 ≠ gb417)); have NB417_416 := zK ((by rw [hg]; exact Nat.ne_of_gt (blk_lt (g := gb416) (o := .cells #[.int .i64 a0_0, .int .i64 a0_1] 47 (0, 0)) (zb BK416)) : gb417 ≠ gb416)); replace BK416 := zK (blk_below (g := gb416) (o := .cells #[.int .i64 a0_0, .int .i64 a0_1] 47 (0, 0)) (zb BK416) hb); clear hb hbox hg; have hnb5 := NB416_417.out; have hnc5 := NB417_416.out; have hcz6_0 : w4.cell? ⟨gb416, 0, none⟩ = some (.int .i64 a0_0) := (blk_cell BK416.out 0).trans rfl; have hcz6_1 : w4.cell? ⟨gb416, 1, none⟩ = some (.int .i64 a0_1) := (blk_cell BK416.out 1).trans rfl; have hfz6_0 := blk_frozen BK416.out 0; have hfz6_1 := blk_frozen BK416.out 1; have hcz7_0 : w4.cell? ⟨gb417, 0, none⟩ = some (.int .i64 a1_0) := (blk_cell BK417.out 0).trans rfl; have hcz7_1 : w4.cell? ⟨gb417, 1, none⟩ = some (.int .i64 a1_1) := (blk_cell BK417.out 1).trans rfl; have hfz7_0 := blk_frozen BK417.out 0; have hfz7_1 := blk_frozen BK417.out 1))
 go_ret
 exact ⟨by first | rfl | (simp [errW_none, errW_some] <;> rfl) | (simp [*, errW_none, errW_some] <;> rfl), zo HB⟩

/-! ### api_Mono_44: function 44 -/
def api_Mono_44.l0 : Nat → List (S47) → List (S47) → Int → Int → Option (Bool)
 | 0, _, _, _, _ => none
 | k + 1, x1, x15, x16, x17 => if x17 < x16 then (if 0 ≤ x17 then (if x17 < (x15.length : Int) then (if x17 < (x1.length : Int) then ((ineq_Same_1.f ((rd_T47 x15 x17).f0) ((rd_T47 x15 x17).f1) ((rd_T47 x1 x17).f0) ((rd_T47 x1 x17).f1)).bind fun t422 => (if t422 = true then (api_Mono_44.l0 k x1 x15 x16 (wrap64 (x17 + 1))) else (some false))) else (none)) else (none)) else (none)) else (some true)
def api_Mono_44.f (k : Nat) (l0 : List (S47)) (l1 : List (S47))  : Option (Bool) := if (l0.length : Int) = (l1.length : Int) then (api_Mono_44.l0 k l1 l0 (l0.length : Int) 0) else (some false)
theorem api_Mono_44.mono_l : ∀ k, (∀ y0 y1 y2 y3, LeO (api_Mono_44.l0 k y0 y1 y2 y3) (api_Mono_44.l0 (k + 1) y0 y1 y2 y3))
 | 0 => fun _ _ _ _ r h => by simp [api_Mono_44.l0] at h
 | k + 1 => by
  have ih0 := api_Mono_44.mono_l k
  ·intro y0 y1 y2 y3
   unfold api_Mono_44.l0
   repeat' first
   | (with_reducible exact ih0 _ _ _ _)
   | (with_reducible exact LeO.refl _)
   | (with_reducible exact LeO.none _)
   | (with_reducible refine LeO.ite ?_ ?_)
   | (with_reducible refine LeO.bind ?_ (fun _ => ?_))
   | exact ih0 _ _ _ _
   | exact LeO.none _
   | refine LeO.ite ?_ ?_
   | refine LeO.bind ?_ (fun _ => ?_)
theorem api_Mono_44.mono : ∀ a0 a1 k, LeO (api_Mono_44.f k a0 a1) (api_Mono_44.f (k + 1) a0 a1) := by
 intro a0 a1 k
 have ih0 := api_Mono_44.mono_l k
 unfold api_Mono_44.f
 repeat' first
   | (with_reducible exact ih0 _ _ _ _)
   | (with_reducible exact LeO.refl _)
   | (with_reducible exact LeO.none _)
   | (with_reducible refine LeO.ite ?_ ?_)
   | (with_reducible refine LeO.bind ?_ (fun _ => ?_))
   | exact ih0 _ _ _ _
   | exact LeO.none _
   | refine LeO.ite ?_ ?_
   | refine LeO.bind ?_ (fun _ => ?_)
set_option maxHeartbeats 8000000 in
set_option maxRecDepth 100000 in
theorem api_Mono_44.calls (k : Nat) (A0 : Option Addr) (c0 : Nat) (l0 : List (S47)) (A1 : Option Addr) (c1 : Nat) (l1 : List (S47))  (r : Bool) (w : World) (hr0 : Kd.C k47 w A0 l0.length l0) (hc0 : l0.length ≤ c0) (hr1 : Kd.C k47 w A1 l1.length l1) (hc1 : l1.length ≤ c1) (h : api_Mono_44.f k l0 l1 = some r) :
  Calls Try.prog 44 #[.slice A0 l0.length c0, .slice A1 l1.length c1, .func (.func 45) #[] #[]] w fun e w' => e = .returned (.bool r) ∧ Below w.heap.size w w' := by
 have hu47 := Try.underlying47
 have HR0 := zK hr0
 have HC0 := zK hc0
 clear hr0 hc0
 have HR1 := zK hr1
 have HC1 := zK hc1
 clear hr1 hc1
 have HB := zK (Below.refl w.heap.size w)
 have H : (if (l0.length : Int) = (l1.length : Int) then (api_Mono_44.l0 k l1 l0 (l0.length : Int) 0) else (some false)) = some r := h
 clear h
 by_cases c4 : (l0.length : Int) = (l1.length : Int)
 ·rw [if_pos c4] at H
  have c4b0 : ((l0.length : Int) == (l1.length : Int)) = true := beq_iff_eq.mpr c4
  have c4b1 : ((l0.length : Int) != (l1.length : Int)) = false := bne_eq_false_iff_eq.mpr c4
  have c4b2 : (l0.length == l1.length) = true := by first | simpa using c4 | (simp at c4 ⊢; omega)
  clear c4
  have H' := zK H
  clear H
  go_enter Try.func44, Try.ntmps44
  go_wp2
  go_loopg [17] k (fun kq v17 w' => ∃ (x17_1 : Int), v17 = .int .i64 x17_1 ∧ Aside0 (api_Mono_44.l0 kq l1 l0 (l0.length : Int) x17_1 = some r) ∧ Aside0 (kq ≤ k) ∧ Aside0 (Below w.heap.size w w'))
  case atStart => exact ⟨(0), (by first | rfl | (simp; done) | (simp [*]; done)), H', ⟨Nat.le_refl _⟩, ⟨zo HB⟩⟩
  case round =>
   clear H'
   try clear c1
   try clear p2
   try clear c4
   try clear c4b0
   try clear c4b1
   try clear c4b2
   obtain ⟨x17_1, rfl, HA, HK1, HB⟩ := hrel
   cases gk with
   | zero => exact absurd HA.out (by simp [api_Mono_44.l0])
   | succ k1 =>
    have H := HA.out
    clear HA
    simp only [api_Mono_44.l0] at H
    by_cases c5 : x17_1 < (l0.length : Int)
    ·rw [if_pos c5] at H
     have c5b0 : decide (x17_1 < (l0.length : Int)) = true := decide_eq_true c5
     clear c5
     by_cases c6 : 0 ≤ x17_1
     ·rw [if_pos c6] at H
      have c6b0 : decide (0 ≤ x17_1) = true := decide_eq_true c6
      clear c6
      by_cases c7 : x17_1 < (l0.length : Int)
      ·rw [if_pos c7] at H
       have c7b0 : decide (x17_1 < (l0.length : Int)) = true := decide_eq_true c7
       clear c7
       by_cases c8 : x17_1 < (l1.length : Int)
       ·rw [if_pos c8] at H
        have c8b0 : decide (x17_1 < (l1.length : Int)) = true := decide_eq_true c8
        clear c8
        replace H := Option.bind_eq_some_iff.mp H
        obtain ⟨t422, A90, H⟩ := H
        replace H : (if t422 = true then (api_Mono_44.l0 k1 l1 l0 (l0.length : Int) (wrap64 (x17_1 + 1))) else (some false)) = some r := H
        have A9 := zK A90
        clear A90
        by_cases c10 : t422 = true
        ·subst c10
         have H1 : (api_Mono_44.l0 k1 l1 l0 (l0.length : Int) (wrap64 (x17_1 + 1))) = some r := by rw [if_pos rfl] at H; exact H
         clear H
         have H := H1
         clear H1
         have H' := zK H
         clear H
         have p418 : 0 ≤ (x17_1 : Int) := of_decide_eq_true (by first | (with_reducible assumption) | assumption)
         have q418 : x17_1 < (l0.length : Int) := of_decide_eq_true (by first | (with_reducible assumption) | assumption)
         obtain ⟨ad418, e418, hx418_0, hx418_1⟩ := at_T47 HR0.out x17_1 p418 q418
         cases e418
         replace hx418_0 := (HB.out.cell (World.block_lt_of_cell? w _ hx418_0)).trans hx418_0
         replace hx418_1 := (HB.out.cell (World.block_lt_of_cell? w _ hx418_1)).trans hx418_1
         replace p418 := eq_true p418
         replace q418 := eq_true q418
         go_wp2_with (first | ((with_reducible refine gate_dst (N := 8) rfl ?_); refine box_event ?hg (N := 8) ?hd (cs := #[.int .i64 0, .int .i64 0]) (t := 47) ?hr ?_; (case hd => rfl); (case hg => rfl); (case hr => first | (go_simp; done) | (go_simp; rfl)); intro gb419 hg w11 hbox hb; have BK419 := zK (hbox); have GW419 := zK ((by rw [hg]; exact (below_size (zo HB)) : w.heap.size ≤ gb419)); have GE419 := zK ((by rw [hg]; exact (below_size (zo HB)) : w.heap.size ≤ gb419)); replace HB := zK (below_step (zo HB) hb); clear hb hbox hg; have hcz12_0 : w11.cell? ⟨gb419, 0, none⟩ = some (.int .i64 0) := (blk_cell BK419.out 0).trans rfl; have hcz12_1 : w11.cell? ⟨gb419, 1, none⟩ = some (.int .i64 0) := (blk_cell BK419.out 1).trans rfl; have hfz12_0 := blk_frozen BK419.out 0; have hfz12_1 := blk_frozen BK419.out 1; have p420 : 0 ≤ (x17_1 : Int) := of_decide_eq_true (by first | (with_reducible assumption) | assumption); have q420 : x17_1 < (l1.length : Int) := of_decide_eq_true (by first | (with_reducible assumption) | assumption); obtain ⟨ad420, e420, hx420_0, hx420_1⟩ := at_T47 HR1.out x17_1 p420 q420; cases e420; have hn420_0 : ad420.block ≠ gb419 := Nat.ne_of_lt (Nat.lt_of_lt_of_le (by have := World.block_lt_of_cell? _ _ hx420_0; first | rwa [add_block] at this | exact this) GW419.out); have hn420_1 : ad420.block ≠ gb419 := Nat.ne_of_lt (Nat.lt_of_lt_of_le (by have := World.block_lt_of_cell? _ _ hx420_0; first | rwa [add_block] at this | exact this) GW419.out); replace hx420_0 := (HB.out.cell (World.block_lt_of_cell? w _ hx420_0)).trans hx420_0; replace hx420_1 := (HB.out.cell (World.block_lt_of_cell? w _ hx420_1)).trans hx420_1; replace hx420_0 := (cell_far (p := ⟨gb419, 0, none⟩) (by first | (rw [add_block]; exact hn420_0) | (show (Addr.add _ _).block ≠ _; rw [add_block]; exact hn420_0) | exact hn420_0) (.int .i64 ((rd_T47 l0 x17_1).f0))).trans hx420_0; replace hx420_1 := (cell_far (p := ⟨gb419, 0, none⟩) (by first | (rw [add_block]; exact hn420_0) | (show (Addr.add _ _).block ≠ _; rw [add_block]; exact hn420_0) | exact hn420_0) (.int .i64 ((rd_T47 l0 x17_1).f0))).trans hx420_1; replace hx420_0 := (cell_far (p := ⟨gb419, 1, none⟩) (by first | (rw [add_block]; exact hn420_1) | (show (Addr.add _ _).block ≠ _; rw [add_block]; exact hn420_1) | exact hn420_1) (.int .i64 ((rd_T47 l0 x17_1).f1))).trans hx420_0; replace hx420_1 := (cell_far (p := ⟨gb419, 1, none⟩) (by first | (rw [add_block]; exact hn420_1) | (show (Addr.add _ _).block ≠ _; rw [add_block]; exact hn420_1) | exact hn420_1) (.int .i64 ((rd_T47 l0 x17_1).f1))).trans hx420_1; clear hn420_0 hn420_1; replace p420 := eq_true p420; replace q420 := eq_true q420) | ((with_reducible refine gate_dst (N := 9) rfl ?_); refine box_event ?hg (N := 9) ?hd (cs := #[.int .i64 0, .int .i64 0]) (t := 47) ?hr ?_; (case hd => rfl); (case hg => rfl); (case hr => first | (go_simp; done) | (go_simp; rfl)); intro gb421 hg w13 hbox hb; have BK421 := zK (hbox); have GW421 := zK ((by rw [hg]; exact (below_size (zo HB)) : w.heap.size ≤ gb421)); have GE421 := zK ((by rw [hg]; exact (below_size (zo HB)) : w.heap.size ≤ gb421)); replace HB := zK (below_step (zo HB) hb); have NB419_421 := zK ((by rw [hg]; exact Nat.ne_of_lt (blk_lt (g := gb419) (o := .cells #[.int .i64 ((rd_T47 l0 x17_1).f0), .int .i64 ((rd_T47 l0 x17_1).f1)] 47 (0, 0)) (by refine zM ?_; refine blk_put (cs := #[.int .i64 ((rd_T47 l0 x17_1).f0), .int .i64 0]) ?_ 1 _ rfl; refine zM ?_; refine blk_put (cs := #[.int .i64 0, .int .i64 0]) ?_ 0 _ rfl; refine zM ?_; exact BK419.out)) : gb419 ≠ gb421)); have NB421_419 := zK ((by rw [hg]; exact Nat.ne_of_gt (blk_lt (g := gb419) (o := .cells #[.int .i64 ((rd_T47 l0 x17_1).f0), .int .i64 ((rd_T47 l0 x17_1).f1)] 47 (0, 0)) (by refine zM ?_; refine blk_put (cs := #[.int .i64 ((rd_T47 l0 x17_1).f0), .int .i64 0]) ?_ 1 _ rfl; refine zM ?_; refine blk_put (cs := #[.int .i64 0, .int .i64 0]) ?_ 0 _ rfl; refine zM ?_; exact BK419.out)) : gb421 ≠ gb419)); replace BK419 := zK (blk_below (g := gb419) (o := .cells #[.int .i64 ((rd_T47 l0 x17_1).f0), .int .i64 ((rd_T47 l0 x17_1).f1)] 47 (0, 0)) (by refine zM ?_; refine blk_put (cs := #[.int .i64 ((rd_T47 l0 x17_1).f0), .int .i64 0]) ?_ 1 _ rfl; refine zM ?_; refine blk_put (cs := #[.int .i64 0, .int .i64 0]) ?_ 0 _ rfl; refine zM ?_; exact BK419.out) hb); clear hb hbox hg; have hnb14 := NB421_419.out; have hnc14 := NB419_421.out; have hcz15_0 : w13.cell? ⟨gb421, 0, none⟩ = some (.int .i64 0) := (blk_cell BK421.out 0).trans rfl; have hcz15_1 : w13.cell? ⟨gb421, 1, none⟩ = some (.int .i64 0) := (blk_cell BK421.out 1).trans rfl; have hfz15_0 := blk_frozen BK421.out 0; have hfz15_1 := blk_frozen BK421.out 1; have hcz16_0 : w13.cell? ⟨gb419, 0, none⟩ = some (.int .i64 ((rd_T47 l0 x17_1).f0)) := (blk_cell BK419.out 0).trans rfl; have hcz16_1 : w13.cell? ⟨gb419, 1, none⟩ = some (.int .i64 ((rd_T47 l0 x17_1).f1)) := (blk_cell BK419.out 1).trans rfl; have hfz16_0 := blk_frozen BK419.out 0; have hfz16_1 := blk_frozen BK419.out 1) | (go_at_call 45; (with_reducible refine (ineq_Same_1.calls ((rd_T47 l0 x17_1).f0) ((rd_T47 l0 x17_1).f1) ((rd_T47 l1 x17_1).f0) ((rd_T47 l1 x17_1).f1) true _ A9.out).mono ?_); rintro e w17 ⟨rfl, hb⟩; replace BK419 := zK (blk_below (g := gb419) (o := .cells #[.int .i64 ((rd_T47 l0 x17_1).f0), .int .i64 ((rd_T47 l0 x17_1).f1)] 47 (0, 0)) (zb BK419) hb); replace BK421 := zK (blk_below (g := gb421) (o := .cells #[.int .i64 ((rd_T47 l1 x17_1).f0), .int .i64 ((rd_T47 l1 x17_1).f1)] 47 (0, 0)) (by refine zM ?_; refine blk_put (cs := #[.int .i64 ((rd_T47 l1 x17_1).f0), .int .i64 0]) ?_ 1 _ rfl; refine zM ?_; refine blk_put (cs := #[.int .i64 0, .int .i64 0]) ?_ 0 _ rfl; refine zM ?_; exact BK421.out) hb); replace HB := zK (below_step (zo HB) hb); (try clear hb); (try clear hb2); (try clear hk); (try clear hi)))
         go_roundg k1
         case measure => have := HK1.out; omega
         case rel => exact ⟨(wrap64 (x17_1 + 1)), (by first | rfl | (simp; done) | (simp [*]; done)), H', ⟨by have := HK1.out; omega⟩, ⟨zo HB⟩⟩
        ·replace c10 := Bool.eq_false_iff.mpr c10
         subst c10
         have H1 : (some false) = some r := by rw [if_neg (show ¬ (false = true) by decide)] at H; exact H
         clear H
         have H := H1
         clear H1
         obtain rfl := Option.some.inj H
         have p418 : 0 ≤ (x17_1 : Int) := of_decide_eq_true (by first | (with_reducible assumption) | assumption)
         have q418 : x17_1 < (l0.length : Int) := of_decide_eq_true (by first | (with_reducible assumption) | assumption)
         obtain ⟨ad418, e418, hx418_0, hx418_1⟩ := at_T47 HR0.out x17_1 p418 q418
         cases e418
         replace hx418_0 := (HB.out.cell (World.block_lt_of_cell? w _ hx418_0)).trans hx418_0
         replace hx418_1 := (HB.out.cell (World.block_lt_of_cell? w _ hx418_1)).trans hx418_1
         replace p418 := eq_true p418
         replace q418 := eq_true q418
         go_wp2_with (first | ((with_reducible refine gate_dst (N := 8) rfl ?_); refine box_event ?hg (N := 8) ?hd (cs := #[.int .i64 0, .int .i64 0]) (t := 47) ?hr ?_; (case hd => rfl); (case hg => rfl); (case hr => first | (go_simp; done) | (go_simp; rfl)); intro gb419 hg w18 hbox hb; have BK419 := zK (hbox); have GW419 := zK ((by rw [hg]; exact (below_size (zo HB)) : w.heap.size ≤ gb419)); have GE419 := zK ((by rw [hg]; exact (below_size (zo HB)) : w.heap.size ≤ gb419)); replace HB := zK (below_step (zo HB) hb); clear hb hbox hg; have hcz19_0 : w18.cell? ⟨gb419, 0, none⟩ = some (.int .i64 0) := (blk_cell BK419.out 0).trans rfl; have hcz19_1 : w18.cell? ⟨gb419, 1, none⟩ = some (.int .i64 0) := (blk_cell BK419.out 1).trans rfl; have hfz19_0 := blk_frozen BK419.out 0; have hfz19_1 := blk_frozen BK419.out 1; have p420 : 0 ≤ (x17_1 : Int) := of_decide_eq_true (by first | (with_reducible assumption) | assumption); have q420 : x17_1 < (l1.length : Int) := of_decide_eq_true (by first | (with_reducible assumption) | assumption); obtain ⟨ad420, e420, hx420_0, hx420_1⟩ := at_T47 HR1.out x17_1 p420 q420; cases e420; have hn420_0 : ad420.block ≠ gb419 := Nat.ne_of_lt (Nat.lt_of_lt_of_le (by have := World.block_lt_of_cell? _ _ hx420_0; first | rwa [add_block] at this | exact this) GW419.out); have hn420_1 : ad420.block ≠ gb419 := Nat.ne_of_lt (Nat.lt_of_lt_of_le (by have := World.block_lt_of_cell? _ _ hx420_0; first | rwa [add_block] at this | exact this) GW419.out); replace hx420_0 := (HB.out.cell (World.block_lt_of_cell? w _ hx420_0)).trans hx420_0; replace hx420_1 := (HB.out.cell (World.block_lt_of_cell? w _ hx420_1)).trans hx420_1; replace hx420_0 := (cell_far (p := ⟨gb419, 0, none⟩) (by first | (rw [add_block]; exact hn420_0) | (show (Addr.add _ _).block ≠ _; rw [add_block]; exact hn420_0) | exact hn420_0) (.int .i64 ((rd_T47 l0 x17_1).f0))).trans hx420_0; replace hx420_1 := (cell_far (p := ⟨gb419, 0, none⟩) (by first | (rw [add_block]; exact hn420_0) | (show (Addr.add _ _).block ≠ _; rw [add_block]; exact hn420_0) | exact hn420_0) (.int .i64 ((rd_T47 l0 x17_1).f0))).trans hx420_1; replace hx420_0 := (cell_far (p := ⟨gb419, 1, none⟩) (by first | (rw [add_block]; exact hn420_1) | (show (Addr.add _ _).block ≠ _; rw [add_block]; exact hn420_1) | exact hn420_1) (.int .i64 ((rd_T47 l0 x17_1).f1))).trans hx420_0; replace hx420_1 := (cell_far (p := ⟨gb419, 1, none⟩) (by first | (rw [add_block]; exact hn420_1) | (show (Addr.add _ _).block ≠ _; rw [add_block]; exact hn420_1) | exact hn420_1) (.int .i64 ((rd_T47 l0 x17_1).f1))).trans hx420_1; clear hn420_0 hn420_1; replace p420 := eq_true p420; replace q420 := eq_true q420) | ((with_reducible refine gate_dst (N := 9) rfl ?_); refine box_event ?hg (N := 9) ?hd (cs := #[.int .i64 0, .int .i64 0]) (t := 47) ?hr ?_; (case hd => rfl); (case hg => rfl); (case hr => first | (go_simp; done) | (go_simp; rfl)); intro gb421 hg w20 hbox hb; have BK421 := zK (hbox); have GW421 := zK ((by rw [hg]; exact (below_size (zo HB)) : w.heap.size ≤ gb421)); have GE421 := zK ((by rw [hg]; exact (below_size (zo HB)) : w.heap.size ≤ gb421)); replace HB := zK (below_step (zo HB) hb); have NB419_421 := zK ((by rw [hg]; exact Nat.ne_of_lt (blk_lt (g := gb419) (o := .cells #[.int .i64 ((rd_T47 l0 x17_1).f0), .int .i64 ((rd_T47 l0 x17_1).f1)] 47 (0, 0)) (by refine zM ?_; refine blk_put (cs := #[.int .i64 ((rd_T47 l0 x17_1).f0), .int .i64 0]) ?_ 1 _ rfl; refine zM ?_; refine blk_put (cs := #[.int .i64 0, .int .i64 0]) ?_ 0 _ rfl; refine zM ?_; exact BK419.out)) : gb419 ≠ gb421)); have NB421_419 := zK ((by rw [hg]; exact Nat.ne_of_gt (blk_lt (g := gb419) (o := .cells #[.int .i64 ((rd_T47 l0 x17_1).f0), .int .i64 ((rd_T47 l0 x17_1).f1)] 47 (0, 0)) (by refine zM ?_; refine blk_put (cs := #[.int .i64 ((rd_T47 l0 x17_1).f0), .int .i64 0]) ?_ 1 _ rfl; refine zM ?_; refine blk_put (cs := #[.int .i64 0, .int .i64 0]) ?_ 0 _ rfl; refine zM ?_; exact BK419.out)) : gb421 ≠ gb419)); replace BK419 := zK (blk_below (g := gb419) (o := .cells #[.int .i64 ((rd_T47 l0 x17_1).f0), .int .i64 ((rd_T47 l0 x17_1).f1)] 47 (0, 0)) (by refine zM ?_; refine blk_put (cs := #[.int .i64 ((rd_T47 l0 x17_1).f0), .int .i64 0]) ?_ 1 _ rfl; refine zM ?_; refine blk_put (cs := #[.int .i64 0, .int .i64 0]) ?_ 0 _ rfl; refine zM ?_; exact BK419.out) hb); clear hb hbox hg; have hnb21 := NB421_419.out; have hnc21 := NB419_421.out; have hcz22_0 : w20.cell? ⟨gb421, 0, none⟩ = some (.int .i64 0) := (blk_cell BK421.out 0).trans rfl; have hcz22_1 : w20.cell? ⟨gb421, 1, none⟩ = some (.int .i64 0) := (blk_cell BK421.out 1).trans rfl; have hfz22_0 := blk_frozen BK421.out 0; have hfz22_1 := blk_frozen BK421.out 1; have hcz23_0 : w20.cell? ⟨gb419, 0, none⟩ = some (.int .i64 ((rd_T47 l0 x17_1).f0)) := (blk_cell BK419.out 0).trans rfl; have hcz23_1 : w20.cell? ⟨gb419, 1, none⟩ = some (.int .i64 ((rd_T47 l0 x17_1).f1)) := (blk_cell BK419.out 1).trans rfl; have hfz23_0 := blk_frozen BK419.out 0; have hfz23_1 := blk_frozen BK419.out 1) | (go_at_call 45; (with_reducible refine (ineq_Same_1.calls ((rd_T47 l0 x17_1).f0) ((rd_T47 l0 x17_1).f1) ((rd_T47 l1 x17_1).f0) ((rd_T47 l1 x17_1).f1) false _ A9.out).mono ?_); rintro e w24 ⟨rfl, hb⟩; replace BK419 := zK (blk_below (g := gb419) (o := .cells #[.int .i64 ((rd_T47 l0 x17_1).f0), .int .i64 ((rd_T47 l0 x17_1).f1)] 47 (0, 0)) (zb BK419) hb); replace BK421 := zK (blk_below (g := gb421) (o := .cells #[.int .i64 ((rd_T47 l1 x17_1).f0), .int .i64 ((rd_T47 l1 x17_1).f1)] 47 (0, 0)) (by refine zM ?_; refine blk_put (cs := #[.int .i64 ((rd_T47 l1 x17_1).f0), .int .i64 0]) ?_ 1 _ rfl; refine zM ?_; refine blk_put (cs := #[.int .i64 0, .int .i64 0]) ?_ 0 _ rfl; refine zM ?_; exact BK421.out) hb); replace HB := zK (below_step (zo HB) hb); (try clear hb); (try clear hb2); (try clear hk); (try clear hi)))
         go_ret
         exact ⟨by first | rfl | (simp [errW_none, errW_some] <;> rfl) | (simp [*, errW_none, errW_some] <;> rfl), zo HB⟩
       ·rw [if_neg c8] at H
        exact absurd H (by simp)
      ·rw [if_neg c7] at H
       exact absurd H (by simp)
     ·rw [if_neg c6] at H
      exact absurd H (by simp)
    ·rw [if_neg c5] at H
     have c5b0 : decide (x17_1 < (l0.length : Int)) = false := decide_eq_false c5
     clear c5
     obtain rfl := Option.some.inj H
     go_wp2
     go_ret
     exact ⟨by first | rfl | (simp [errW_none, errW_some] <;> rfl) | (simp [*, errW_none, errW_some] <;> rfl), zo HB⟩
 ·rw [if_neg c4] at H
  have c4b0 : ((l0.length : Int) == (l1.length : Int)) = false := beq_eq_false_iff_ne.mpr c4
  have c4b1 : ((l0.length : Int) != (l1.length : Int)) = true := bne_iff_ne.mpr c4
  have c4b2 : (l0.length == l1.length) = false := by first | simpa using c4 | (simp at c4 ⊢; omega)
  obtain rfl := Option.some.inj H
  go_enter Try.func44, Try.ntmps44
  go_wp2
  go_ret
  exact ⟨by first | rfl | (simp [errW_none, errW_some] <;> rfl) | (simp [*, errW_none, errW_some] <;> rfl), zo HB⟩

/-! ### ineq_Same: function 26 -/
def ineq_Same.f (k : Nat) (a0_0 : Int) (l0_1 : List (S47)) (a0_2 : Bool) (a1_0 : Int) (l1_1 : List (S47)) (a1_2 : Bool) : Option (Bool) := if (a0_2 == a1_2) = true then (if a0_0 = a1_0 then ((api_Mono_44.f k l0_1 l1_1).bind fun t425 => (some t425)) else (some false)) else (some false)
theorem ineq_Same.mono : ∀ a0 a1 a2 a3 a4 a5 k, LeO (ineq_Same.f k a0 a1 a2 a3 a4 a5) (ineq_Same.f (k + 1) a0 a1 a2 a3 a4 a5) := by
 intro a0 a1 a2 a3 a4 a5 k
 unfold ineq_Same.f
 repeat' first
   | (with_reducible exact api_Mono_44.mono _ _ _)
   | (with_reducible exact LeO.refl _)
   | (with_reducible exact LeO.none _)
   | (with_reducible refine LeO.ite ?_ ?_)
   | (with_reducible refine LeO.bind ?_ (fun _ => ?_))
   | exact api_Mono_44.mono _ _ _
   | exact LeO.none _
   | refine LeO.ite ?_ ?_
   | refine LeO.bind ?_ (fun _ => ?_)
set_option maxHeartbeats 8000000 in
set_option maxRecDepth 100000 in
theorem ineq_Same.calls (k : Nat) (a0_0 : Int) (A0_1 : Option Addr) (c0_1 : Nat) (l0_1 : List (S47)) (a0_2 : Bool) (a1_0 : Int) (A1_1 : Option Addr) (c1_1 : Nat) (l1_1 : List (S47)) (a1_2 : Bool) (r : Bool) (w : World) (hr0_1 : Kd.C k47 w A0_1 l0_1.length l0_1) (hc0_1 : l0_1.length ≤ c0_1) (hr1_1 : Kd.C k47 w A1_1 l1_1.length l1_1) (hc1_1 : l1_1.length ≤ c1_1) (h : ineq_Same.f k a0_0 l0_1 a0_2 a1_0 l1_1 a1_2 = some r) :
  Calls Try.prog 26 #[.agg #[.int .i64 a0_0, .slice A0_1 l0_1.length c0_1, .bool a0_2], .agg #[.int .i64 a1_0, .slice A1_1 l1_1.length c1_1, .bool a1_2]] w fun e w' => e = .returned (.bool r) ∧ Below w.heap.size w w' := by
 have hu30 := Try.underlying30
 have HR0_1 := zK hr0_1
 have HC0_1 := zK hc0_1
 clear hr0_1 hc0_1
 have HR1_1 := zK hr1_1
 have HC1_1 := zK hc1_1
 clear hr1_1 hc1_1
 have HB := zK (Below.refl w.heap.size w)
 have H : (if (a0_2 == a1_2) = true then (if a0_0 = a1_0 then ((api_Mono_44.f k l0_1 l1_1).bind fun t425 => (some t425)) else (some false)) else (some false)) = some r := h
 clear h
 by_cases c3 : (a0_2 == a1_2) = true
 ·rw [if_pos c3] at H
  have c3b0 : (a0_2 == a1_2) = true := c3
  (try (have c3b1 : decide (a0_2 = a1_2) = true := by simpa using c3))
  (try (have c3b2 : (a0_2 == a1_2) = true := by simpa using c3))
  clear c3
  by_cases c4 : a0_0 = a1_0
  ·rw [if_pos c4] at H
   have c4b0 : (a0_0 == a1_0) = true := beq_iff_eq.mpr c4
   have c4b1 : (a0_0 != a1_0) = false := bne_eq_false_iff_eq.mpr c4
   clear c4
   replace H := Option.bind_eq_some_iff.mp H
   obtain ⟨t425, A50, H⟩ := H
   replace H : (some t425) = some r := H
   have A5 := zK A50
   clear A50
   obtain rfl := Option.some.inj H
   go_enter Try.func26, Try.ntmps26
   go_wp2_with (first | ((with_reducible refine gate_dst (N := 2) rfl ?_); refine box_event ?hg (N := 2) ?hd (cs := #[.int .i64 a0_0, .slice A0_1 l0_1.length c0_1, .bool a0_2]) (t := 30) ?hr ?_; (case hd => rfl); (case hg => rfl); (case hr => first | (go_simp; done) | (go_simp; rfl)); intro gb423 hg w6 hbox hb; have BK423 := zK (hbox); have GW423 := zK ((by rw [hg]; exact (below_size (zo HB)) : w.heap.size ≤ gb423)); have GE423 := zK ((by rw [hg]; exact (below_size (zo HB)) : w.heap.size ≤ gb423)); replace HB := zK (below_step (zo HB) hb); clear hb hbox hg) | ((with_reducible refine gate_dst (N := 3) rfl ?_); refine box_event ?hg (N := 3) ?hd (cs := #[.int .i64 a1_0, .slice A1_1 l1_1.length c1_1, .bool a1_2]) (t := 30) ?hr ?_; (case hd => rfl); (case hg => rfl); (case hr => first | (go_simp; done) | (go_simp; rfl)); intro gb424 hg w7 hbox hb; have BK424 := zK (hbox); have GW424 := zK ((by rw [hg]; exact (below_size (zo HB)) : w.heap.size ≤ gb424)); have GE424 := zK ((by rw [hg]; exact (below_size (zo HB)) : w.heap.size ≤ gb424)); replace HB := zK (below_step (zo HB) hb); have NB423_424 := zK ((by rw [hg]; exact Nat.ne_of_lt (blk_lt (g := gb423) (o := .cells #[.int .i64 a0_0, .slice A0_1 l0_1.length c0_1, .bool a0_2] 30 (0, 0)) (zb BK423)) : gb423 ≠ gb424)); have NB424_423 := zK ((by rw [hg]; exact Nat.ne_of_gt (blk_lt (g := gb423) (o := .cells #[.int .i64 a0_0, .slice A0_1 l0_1.length c0_1, .bool a0_2] 30 (0, 0)) (zb BK423)) : gb424 ≠ gb423)); replace BK423 := zK (blk_below (g := gb423) (o := .cells #[.int .i64 a0_0, .slice A0_1 l0_1.length c0_1, .bool a0_2] 30 (0, 0)) (zb BK423) hb); clear hb hbox hg; have hnb8 := NB423_424.out; have hnc8 := NB424_423.out; have hcz9_0 : w7.cell? ⟨gb423, 0, none⟩ = some (.int .i64 a0_0) := (blk_cell BK423.out 0).trans rfl; have hcz9_1 : w7.cell? ⟨gb423, 1, none⟩ = some (.slice A0_1 l0_1.length c0_1) := (blk_cell BK423.out 1).trans rfl; have hcz9_2 : w7.cell? ⟨gb423, 2, none⟩ = some (.bool a0_2) := (blk_cell BK423.out 2).trans rfl; have hfz9_0 := blk_frozen BK423.out 0; have hfz9_1 := blk_frozen BK423.out 1; have hfz9_2 := blk_frozen BK423.out 2; have hcz10_0 : w7.cell? ⟨gb424, 0, none⟩ = some (.int .i64 a1_0) := (blk_cell BK424.out 0).trans rfl; have hcz10_1 : w7.cell? ⟨gb424, 1, none⟩ = some (.slice A1_1 l1_1.length c1_1) := (blk_cell BK424.out 1).trans rfl; have hcz10_2 : w7.cell? ⟨gb424, 2, none⟩ = some (.bool a1_2) := (blk_cell BK424.out 2).trans rfl; have hfz10_0 := blk_frozen BK424.out 0; have hfz10_1 := blk_frozen BK424.out 1; have hfz10_2 := blk_frozen BK424.out 2) | (go_at_call 44; (with_reducible refine (api_Mono_44.calls k _ _ l0_1 _ _ l1_1 t425 _ ?side1 ?side2 ?side3 ?side4 A5.out).mono ?_); (case side1 => repeat (first | exact (Kd.C_below HR0_1.out HB.out) | (with_reducible refine cA ?_ _) | (with_reducible refine cN ?_ _) | (with_reducible refine cD ?_))); (case side2 => exact HC0_1.out); (case side3 => repeat (first | exact (Kd.C_below HR1_1.out HB.out) | (with_reducible refine cA ?_ _) | (with_reducible refine cN ?_ _) | (with_reducible refine cD ?_))); (case side4 => exact HC1_1.out); rintro e w11 ⟨rfl, hb⟩; replace BK423 := zK (blk_below (g := gb423) (o := .cells #[.int .i64 a0_0, .slice A0_1 l0_1.length c0_1, .bool a0_2] 30 (0, 0)) (zb BK423) hb); replace BK424 := zK (blk_below (g := gb424) (o := .cells #[.int .i64 a1_0, .slice A1_1 l1_1.length c1_1, .bool a1_2] 30 (0, 0)) (zb BK424) hb); replace HB := zK (below_step (zo HB) hb); (try clear hb); (try clear hb2); (try clear hk); (try clear hi)))
   go_ret
   exact ⟨by first | rfl | (simp [errW_none, errW_some] <;> rfl) | (simp [*, errW_none, errW_some] <;> rfl), zo HB⟩
  ·rw [if_neg c4] at H
   have c4b0 : (a0_0 == a1_0) = false := beq_eq_false_iff_ne.mpr c4
   have c4b1 : (a0_0 != a1_0) = true := bne_iff_ne.mpr c4
   obtain rfl := Option.some.inj H
   go_enter Try.func26, Try.ntmps26
   go_wp2_with (first | ((with_reducible refine gate_dst (N := 2) rfl ?_); refine box_event ?hg (N := 2) ?hd (cs := #[.int .i64 a0_0, .slice A0_1 l0_1.length c0_1, .bool a0_2]) (t := 30) ?hr ?_; (case hd => rfl); (case hg => rfl); (case hr => first | (go_simp; done) | (go_simp; rfl)); intro gb423 hg w12 hbox hb; have BK423 := zK (hbox); have GW423 := zK ((by rw [hg]; exact (below_size (zo HB)) : w.heap.size ≤ gb423)); have GE423 := zK ((by rw [hg]; exact (below_size (zo HB)) : w.heap.size ≤ gb423)); replace HB := zK (below_step (zo HB) hb); clear hb hbox hg) | ((with_reducible refine gate_dst (N := 3) rfl ?_); refine box_event ?hg (N := 3) ?hd (cs := #[.int .i64 a1_0, .slice A1_1 l1_1.length c1_1, .bool a1_2]) (t := 30) ?hr ?_; (case hd => rfl); (case hg => rfl); (case hr => first | (go_simp; done) | (go_simp; rfl)); intro gb424 hg w13 hbox hb; have BK424 := zK (hbox); have GW424 := zK ((by rw [hg]; exact (below_size (zo HB)) : w.heap.size ≤ gb424)); have GE424 := zK ((by rw [hg]; exact (below_size (zo HB)) : w.heap.size ≤ gb424)); replace HB := zK (below_step (zo HB) hb); have NB423_424 := zK ((by rw [hg]; exact Nat.ne_of_lt (blk_lt (g := gb423) (o := .cells #[.int .i64 a0_0, .slice A0_1 l0_1.length c0_1, .bool a0_2] 30 (0, 0)) (zb BK423)) : gb423 ≠ gb424)); have NB424_423 := zK ((by rw [hg]; exact Nat.ne_of_gt (blk_lt (g := gb423) (o := .cells #[.int .i64 a0_0, .slice A0_1 l0_1.length c0_1, .bool a0_2] 30 (0, 0)) (zb BK423)) : gb424 ≠ gb423)); replace BK423 := zK (blk_below (g := gb423) (o := .cells #[.int .i64 a0_0, .slice A0_1 l0_1.length c0_1, .bool a0_2] 30 (0, 0)) (zb BK423) hb); clear hb hbox hg; have hnb14 := NB423_424.out; have hnc14 := NB424_423.out; have hcz15_0 : w13.cell? ⟨gb423, 0, none⟩ = some (.int .i64 a0_0) := (blk_cell BK423.out 0).trans rfl; have hcz15_1 : w13.cell? ⟨gb423, 1, none⟩ = some (.slice A0_1 l0_1.length c0_1) := (blk_cell BK423.out 1).trans rfl; have hcz15_2 : w13.cell? ⟨gb423, 2, none⟩ = some (.bool a0_2) := (blk_cell BK423.out 2).trans rfl; have hfz15_0 := blk_frozen BK423.out 0; have hfz15_1 := blk_frozen BK423.out 1; have hfz15_2 := blk_frozen BK423.out 2; have hcz16_0 : w13.cell? ⟨gb424, 0, none⟩ = some (.int .i64 a1_0) := (blk_cell BK424.out 0).trans rfl; have hcz16_1 : w13.cell? ⟨gb424, 1, none⟩ = some (.slice A1_1 l1_1.length c1_1) := (blk_cell BK424.out 1).trans rfl; have hcz16_2 : w13.cell? ⟨gb424, 2, none⟩ = some (.bool a1_2) := (blk_cell BK424.out 2).trans rfl; have hfz16_0 := blk_frozen BK424.out 0; have hfz16_1 := blk_frozen BK424.out 1; have hfz16_2 := blk_frozen BK424.out 2))
   go_ret
   exact ⟨by first | rfl | (simp [errW_none, errW_some] <;> rfl) | (simp [*, errW_none, errW_some] <;> rfl), zo HB⟩
 ·rw [if_neg c3] at H
  have c3b0 : (a0_2 == a1_2) = false := by simpa using c3
  (try (have c3b1 : decide (a0_2 = a1_2) = false := by simpa using c3))
  (try (have c3b2 : (a0_2 == a1_2) = false := by simpa using c3))
  (try (have c3b3 : ¬ (a0_2 = a1_2) := by simpa using c3))
  clear c3
  obtain rfl := Option.some.inj H
  go_enter Try.func26, Try.ntmps26
  go_wp2_with (first | ((with_reducible refine gate_dst (N := 2) rfl ?_); refine box_event ?hg (N := 2) ?hd (cs := #[.int .i64 a0_0, .slice A0_1 l0_1.length c0_1, .bool a0_2]) (t := 30) ?hr ?_; (case hd => rfl); (case hg => rfl); (case hr => first | (go_simp; done) | (go_simp; rfl)); intro gb423 hg w17 hbox hb; have BK423 := zK (hbox); have GW423 := zK ((by rw [hg]; exact (below_size (zo HB)) : w.heap.size ≤ gb423)); have GE423 := zK ((by rw [hg]; exact (below_size (zo HB)) : w.heap.size ≤ gb423)); replace HB := zK (below_step (zo HB) hb); clear hb hbox hg) | ((with_reducible refine gate_dst (N := 3) rfl ?_); refine box_event ?hg (N := 3) ?hd (cs := #[.int .i64 a1_0, .slice A1_1 l1_1.length c1_1, .bool a1_2]) (t := 30) ?hr ?_; (case hd => rfl); (case hg => rfl); (case hr => first | (go_simp; done) | (go_simp; rfl)); intro gb424 hg w18 hbox hb; have BK424 := zK (hbox); have GW424 := zK ((by rw [hg]; exact (below_size (zo HB)) : w.heap.size ≤ gb424)); have GE424 := zK ((by rw [hg]; exact (below_size (zo HB)) : w.heap.size ≤ gb424)); replace HB := zK (below_step (zo HB) hb); have NB423_424 := zK ((by rw [hg]; exact Nat.ne_of_lt (blk_lt (g := gb423) (o := .cells #[.int .i64 a0_0, .slice A0_1 l0_1.length c0_1, .bool a0_2] 30 (0, 0)) (zb BK423)) : gb423 ≠ gb424)); have NB424_423 := zK ((by rw [hg]; exact Nat.ne_of_gt (blk_lt (g := gb423) (o := .cells #[.int .i64 a0_0, .slice A0_1 l0_1.length c0_1, .bool a0_2] 30 (0, 0)) (zb BK423)) : gb424 ≠ gb423)); replace BK423 := zK (blk_below (g := gb423) (o := .cells #[.int .i64 a0_0, .slice A0_1 l0_1.length c0_1, .bool a0_2] 30 (0, 0)) (zb BK423) hb); clear hb hbox hg; have hnb19 := NB423_424.out; have hnc19 := NB424_423.out; have hcz20_0 : w18.cell? ⟨gb423, 0, none⟩ = some (.int .i64 a0_0) := (blk_cell BK423.out 0).trans rfl; have hcz20_1 : w18.cell? ⟨gb423, 1, none⟩ = some (.slice A0_1 l0_1.length c0_1) := (blk_cell BK423.out 1).trans rfl; have hcz20_2 : w18.cell? ⟨gb423, 2, none⟩ = some (.bool a0_2) := (blk_cell BK423.out 2).trans rfl; have hfz20_0 := blk_frozen BK423.out 0; have hfz20_1 := blk_frozen BK423.out 1; have hfz20_2 := blk_frozen BK423.out 2; have hcz21_0 : w18.cell? ⟨gb424, 0, none⟩ = some (.int .i64 a1_0) := (blk_cell BK424.out 0).trans rfl; have hcz21_1 : w18.cell? ⟨gb424, 1, none⟩ = some (.slice A1_1 l1_1.length c1_1) := (blk_cell BK424.out 1).trans rfl; have hcz21_2 : w18.cell? ⟨gb424, 2, none⟩ = some (.bool a1_2) := (blk_cell BK424.out 2).trans rfl; have hfz21_0 := blk_frozen BK424.out 0; have hfz21_1 := blk_frozen BK424.out 1; have hfz21_2 := blk_frozen BK424.out 2))
  go_ret
  exact ⟨by first | rfl | (simp [errW_none, errW_some] <;> rfl) | (simp [*, errW_none, errW_some] <;> rfl), zo HB⟩

end Go.Proofs.Ytmedciidghmkkaa.PIneqTurns
