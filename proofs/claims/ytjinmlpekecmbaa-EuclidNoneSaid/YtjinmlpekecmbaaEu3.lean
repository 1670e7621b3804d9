/- What a system's methods come to (euclid.run and what it calls), walked by hand: they answer as the plain functions of the same names do, wherever those answer; no condition but what stands in each theorem. Printed in part by programs of this session. -/
import Derived.Test.YtjinmlpekecmbaaEu1
import Derived.Test.YtjinmlpekecmbaaEu2
namespace Go.Proofs.Ytjinmlpekecmbaa.PEuclidNone
open Go.RowKit Go.Proofs.YtjinmlpekecmbaaW.PrintWords Go.Proofs.YtjinmlpekecmbaaW.PrintLast Go.Proofs.YtjinmlpekecmbaaW.PrintMore
open Go.Proofs.YtjinmlpekecmbaaW.PrintWords renaming blk_drewN → zN, blk_drew → zD, blk_alloc → zA, below_alloc → yA, pw_below_drewN → yN, below_drew1 → yD, below_set → yS, gate_callee → zC
open Go.Proofs.YtjinmlpekecmbaaW.PrintWords.Aside0 renaming mk → zK
attribute [local go_sem] max2_int min2_int max_two min_two max_three min_three max_four min_four   -- for this text's walks alone
set_option linter.unusedVariables false
set_option linter.unusedSimpArgs false
def euclid_reduce.T6 : Bool × List (List Nat × List Nat) := (true, [([], []), ([0], [0]), ([1], [1]), ([], []), ([3], [3]), ([4, 2], [4]), ([2, 5], [2, 5])])
def euclid_reduce.B6 : List Nat := [0, 1, 3, 0, 8, 31, 63]
theorem euclid_reduce.tab6 : rtab .any (opsOf Try.f42 6) = euclid_reduce.T6 := by kernel_rfl
theorem euclid_reduce.bits6 : waitsOk euclid_reduce.T6.2 euclid_reduce.B6 = true := by kernel_rfl
def euclid_reduce.T22 : Bool × List (List Nat × List Nat) := (true, [([], []), ([0], [0]), ([], []), ([2], [2]), ([], []), ([4], [4]), ([5], [5]), ([6], [6]), ([], []), ([8], [8]), ([9], [9]), ([10], [10]), ([1, 0, 1, 4, 5, 6, 7, 11], [1]), ([12, 7, 0, 1, 4, 5, 6, 7, 11], [7, 12]), ([3, 0, 1, 2, 3, 4, 5, 6, 7, 8, 9, 10, 11, 12, 13], [3]), ([14, 11, 13, 0, 1, 2, 3, 4, 5, 6, 7, 8, 9, 10, 11, 12, 13], [11, 14])])
def euclid_reduce.B22 : List Nat := [0, 1, 0, 4, 0, 16, 48, 112, 0, 256, 768, 1792, 4083, 8179, 16383, 32767]
theorem euclid_reduce.tab22 : rtab .any (opsOf Try.f42 22) = euclid_reduce.T22 := by kernel_rfl
theorem euclid_reduce.bits22 : waitsOk euclid_reduce.T22.2 euclid_reduce.B22 = true := by kernel_rfl
/-! ### (*euclid.work).reduce -/
set_option maxHeartbeats 8000000 in
set_option maxRecDepth 100000 in
theorem euclid_reduce.calls (k : Nat) (n0 n : Nat) (M : Nat → Prop) (gW gV : Nat) (Av : Option Addr) (cv : Nat) (pv : Value) (err : Int) (cs : Array Value) (xs : List S41) (f : S41) (A0 : Option Addr) (c0 : Nat) (r : S41) (ys : List S41) (er : Int) (w : World)
    (hM : ∀ b, M b → b < w.heap.size) (hMW : M gW) (hMV : M gV) (hne : 0 < n → gV ≠ gW) (hAv : 0 < n → Av = some ⟨gV, 0, none⟩) (hn : n ≤ 64) (hn0 : n0 ≤ w.heap.size) (hnn : xs.length = n)
    (hW : w.heap[gW]? = some (.cells #[.slice Av n cv, pv, .int .i64 err] 86 (0, 0))) (hV : 0 < n → w.heap[gV]? = some (.cells cs 41 (0, 0))) (hve : VE n0 cs xs M w) (hvd : VD cs n)
    (hl : Kd.V k44 44 w 0 (fun b => ¬ M b) (.slice A0 f.f1.length c0) f.f1)
    (h : euclid_reduce.f k xs err f = some (r, ys, er)) :
    Calls Try.prog 42 #[.pointer (some ⟨gW, 0, none⟩), .agg #[.int .i64 f.f0, .slice A0 f.f1.length c0]] w fun e w' => ∃ v, e = .returned (.agg #[.int .i64 r.f0, v]) ∧ Kd.V k44 44 w' 0 (fun b => ¬ M b) v r.f1 ∧ Fs (fun b => b = gW ∨ (0 < n ∧ b = gV)) w w' ∧ w'.heap[gW]? = some (.cells #[.slice Av n cv, pv, .int .i64 er] 86 (0, 0)) ∧ ∃ cs', (0 < n → w'.heap[gV]? = some (.cells cs' 41 (0, 0))) ∧ VE n0 cs' ys M w' ∧ VD cs' n ∧ ys.length = n := by
  have hu41 := Try.underlying41
  have hu44 := Try.underlying44
  have hu86 := Try.underlying86
  have H := Aside0.mk h
  have HM := Aside0.mk (And.intro hM (And.intro hMW (And.intro hMV (And.intro hne (And.intro hn hn0)))))
  have HA := Aside0.mk hAv
  have HV := Aside0.mk (And.intro hvd hnn)
  have CX := Aside0.mk (Cx.start (w := w) (S := (fun b => b = gW ∨ (0 < n ∧ b = gV))) (M := M) (T := (TWk gW gV n Av cv (pv) (err) cs))
    (P := (PA (PV k44 44 (.slice A0 f.f1.length c0) f.f1) (VE n0 cs xs)))
    hM ⟨hW, hV⟩ (tTA (tTB HM.out.2.1) (tTI (tTB HM.out.2.2.1))) ⟨hl, hve⟩ (gPA gPV (good_VE _ _ _)))
  clear h hM hMW hMV hne hn hn0 hnn hW hV hve hvd hl hAv
  go_enter Try.func42, Try.ntmps42
  go_wp2_with (first
    | ((with_reducible refine gate_dst (N := 3) rfl ?_); refine boxA CX 41 #[.int .i64 f.f0, .slice A0 f.f1.length c0] ?_; clear CX; intro g3 w1 CX)
    | ((with_reducible refine gate_dst (N := 4) rfl ?_); refine boxA CX 41 #[.int .i64 0, .slice none 0 0] ?_; clear CX; intro g4 w2 CX))
  simp only [Act.put, List.setIfInBounds_toArray, List.set_cons_zero, List.set_cons_succ]
  go_loopg [] k (fun gk w' => ∃ (F : S41) (zs_ : List S41) (e_ : Int) (c_ : Array Value) (Af : Option Addr) (cf : Nat), Aside0 (euclid_reduce.l0 k gk F zs_ e_ = some (r, ys, er)) ∧ Aside0 (VD c_ n ∧ zs_.length = n) ∧ Aside0 (Cx w (fun b => b = gW ∨ (0 < n ∧ b = gV)) M (fun _ => False) (TWk gW gV n Av cv (pv) (e_) c_) (PA (PV k44 44 (.slice Af F.f1.length cf) F.f1) (VE n0 c_ zs_)) w' [(g4, #[.int .i64 0, .slice none 0 0], 41), (g3, #[.int .i64 F.f0, .slice Af F.f1.length cf], 41)]))
  case atStart => exact ⟨f, xs, err, cs, A0, c0, H, HV, CX⟩
  case round =>
    clear CX H HV
    obtain ⟨F, zs_, e_, c_, Af, cf, HR, HV, CX⟩ := hrel
    cases gk with
    | zero => have h := HR.out; simp only [euclid_reduce.l0] at h; cases h
    | succ gko =>
    have hR := HR.out
    simp only [euclid_reduce.l0] at hR
    by_cases hc : e_ = 0 ∧ 1 < F.f1.length
    case neg =>
      rw [if_neg hc] at hR
      simp only [Option.some.injEq, Prod.mk.injEq] at hR
      obtain ⟨rfl, rfl, rfl⟩ := hR
      by_cases he : e_ = 0
      · have hce : (e_ == 0) = true := by rw [he]; rfl
        have hcl : decide (1 < (F.f1.length : Int)) = false := decide_eq_false (by omega)
        clear hc he HR
        have hc_g3_0 := ze0 (CX.out.blk 1 rfl)
        have hc_g3_1 := ze1 (CX.out.blk 1 rfl)
        have hx_e : wr.cell? ⟨gW, 2, none⟩ = some (.int .i64 (e_)) := (blk_cell CX.out.t.1 2).trans rfl
        go_wp2_with (first
          | ((with_reducible refine gate_store (t := 41) (p := 4) rfl ?_); refine storeW CX (Cx.wh0n2) (st41 (CX.out.blk 0 rfl)) ?_; clear CX; intro w3 CX; clear hc_g3_0 hc_g3_1 hx_e))
        refine bodyPost_ret (v := .agg #[.int .i64 F.f0, .slice Af F.f1.length cf]) ?hres ?hdef ?_
        case hdef => rfl
        case hres => exact results_single rfl (Vals.cell g4 41 #[.int .i64 F.f0, .slice Af F.f1.length cf] (0, 0) _ rfl (CX.out.blk 0 rfl) Try.underlying41 rfl (by kernel_rfl) .nil)
        refine ⟨_, rfl, Kd.V_mono CX.out.p.1 (fun b hb hm => hb (.inl hm)), CX.out.fs, CX.out.t.1, _, CX.out.t.2, (good_VE _ _ _).mono CX.out.p.2 (fun b _ hm => .inl hm), HV.out.1, HV.out.2⟩
      · have hce : (e_ == 0) = false := beq_eq_false_iff_ne.mpr he
        clear hc he HR
        have hc_g3_0 := ze0 (CX.out.blk 1 rfl)
        have hc_g3_1 := ze1 (CX.out.blk 1 rfl)
        have hx_e : wr.cell? ⟨gW, 2, none⟩ = some (.int .i64 (e_)) := (blk_cell CX.out.t.1 2).trans rfl
        go_wp2_with (first
          | ((with_reducible refine gate_store (t := 41) (p := 4) rfl ?_); refine storeW CX (Cx.wh0n2) (st41 (CX.out.blk 0 rfl)) ?_; clear CX; intro w3 CX; clear hc_g3_0 hc_g3_1 hx_e))
        refine bodyPost_ret (v := .agg #[.int .i64 F.f0, .slice Af F.f1.length cf]) ?hres ?hdef ?_
        case hdef => rfl
        case hres => exact results_single rfl (Vals.cell g4 41 #[.int .i64 F.f0, .slice Af F.f1.length cf] (0, 0) _ rfl (CX.out.blk 0 rfl) Try.underlying41 rfl (by kernel_rfl) .nil)
        refine ⟨_, rfl, Kd.V_mono CX.out.p.1 (fun b hb hm => hb (.inl hm)), CX.out.fs, CX.out.t.1, _, CX.out.t.2, (good_VE _ _ _).mono CX.out.p.2 (fun b _ hm => .inl hm), HV.out.1, HV.out.2⟩
    case pos =>
      rw [if_pos hc] at hR
      by_cases hlen : F.f1.length ≤ 1000000
      case neg => rw [if_neg hlen] at hR; cases hR
      rw [if_pos hlen] at hR
      obtain ⟨B, hb1, hR2⟩ := Option.bind_eq_some_iff.1 hR
      obtain ⟨s, hs, hR3⟩ := Option.bind_eq_some_iff.1 hR2
      have H1 := Aside0.mk hb1
      have H2 := Aside0.mk hs
      have HO := Aside0.mk hR3
      have HL := Aside0.mk (And.intro hlen hc.2)
      obtain ⟨he, hc1⟩ := hc
      subst he
      have hce : ((0 : Int) == 0) = true := rfl
      have hcl : decide (1 < (F.f1.length : Int)) = true := decide_eq_true (by omega)
      obtain ⟨adl, e2, hn0, hn1⟩ := at_T44 (Kd.V_reads' CX.out.p.1).2.2 0 (by decide) (by omega)
      subst e2
      replace hn0 : wr.cell? adl = some (.int .i64 (rd_T44 F.f1 0).f0) := hn0
      replace hn1 : wr.cell? ⟨adl.block, adl.off + 1, none⟩ = some (.int .i64 (rd_T44 F.f1 0).f1) := hn1
      have hp0 : (0 : Int) ≤ 0 := Int.le_refl 0
      have hp1 : (0 : Int) < (F.f1.length : Int) := by omega
      have hp0 := eq_true hp0
      have hp1 := eq_true hp1
      clear hR hR2 hR3 HR hb1 hs hlen hc1
      have hc_g3_0 := ze0 (CX.out.blk 1 rfl)
      have hc_g3_1 := ze1 (CX.out.blk 1 rfl)
      have hx_e : wr.cell? ⟨gW, 2, none⟩ = some (.int .i64 (0)) := (blk_cell CX.out.t.1 2).trans rfl
      go_wp2_with (first
        | ((with_reducible refine gate_dst (N := 5) rfl ?_); refine boxB CX 44 #[.int .i64 0, .int .i64 0] ?_; clear CX; intro g5 w3 CX hb_; replace hn0 := zcm hb_ hn0; replace hn1 := zcm hb_ hn1; clear hb_; clear hc_g3_0 hc_g3_1 hx_e)
        | ((with_reducible refine gate_store (t := 44) (p := 5) rfl ?_); refine storeW CX (Cx.wh0n2) (st44 (CX.out.blk 0 rfl)) ?_; clear CX; intro w4 CX; clear hn0 hn1; have hc_g3_0 := ze0 (CX.out.blk 2 rfl); have hc_g3_1 := ze1 (CX.out.blk 2 rfl)))
      clear hc_g3_0 hc_g3_1
      go_loopg [33] F.f1.length (fun gk v33 w' => ∃ (x : Int) (zs rest : List S44) (b : S44), v33 = .int .i64 x ∧ Aside0 (x = (zs.length : Int) ∧ gk = rest.length ∧ zs ++ rest = F.f1) ∧ Aside0 (euclid_reduce.l1 rest b = some B) ∧ Aside0 (Cx w (fun b => b = gW ∨ (0 < n ∧ b = gV)) M (fun _ => False) (TWk gW gV n Av cv (pv) (0) c_) (PA (PV k44 44 (.slice (some adl) F.f1.length cf) F.f1) (VE n0 c_ zs_)) w' [(g5, #[.int .i64 b.f0, .int .i64 b.f1], 44), (g4, #[.int .i64 0, .slice none 0 0], 41), (g3, #[.int .i64 F.f0, .slice (some adl) F.f1.length cf], 41)]))
      case atStart => exact ⟨0, [], F.f1, rd_T44 F.f1 0, rfl, ⟨rfl, rfl, rfl⟩, H1, CX⟩
      case round =>
      clear CX H1
      obtain ⟨x, zs, rest, b, rfl, HI, H1, CX⟩ := hrel
      have hll : zs.length + rest.length = F.f1.length := by rw [← List.length_append, HI.out.2.2]
      have HLL := Aside0.mk hll
      clear hll
      cases rest with
      | cons m rest =>
        obtain ⟨gki, rfl⟩ : ∃ gki, gk = gki + 1 := ⟨gk - 1, by have := HI.out.2.1; rw [List.length_cons] at this; omega⟩
        have h1 := H1.out
        simp only [euclid_reduce.l1] at h1
        obtain ⟨X, hX, h2⟩ := Option.bind_eq_some_iff.1 h1
        obtain ⟨Y, hY, h3⟩ := Option.bind_eq_some_iff.1 h2
        have HX := Aside0.mk hX
        have HY := Aside0.mk hY
        have H1' := Aside0.mk h3
        have hx0 : 0 ≤ x := by have := HI.out.1; omega
        have hx1 : x < (F.f1.length : Int) := by have := HI.out.1; have h2 := HLL.out; rw [List.length_cons] at h2; omega
        have c1 : decide (x < (F.f1.length : Int)) = true := decide_eq_true hx1
        obtain ⟨adm, e2, hn0, hn1⟩ := at_T44 (Kd.V_reads' CX.out.p.1).2.2 x hx0 hx1
        have e3 := Option.some.inj e2
        subst e3
        have hrm : rd_T44 F.f1 x = m := by rw [← HI.out.2.2, HI.out.1]; simp [rd_T44]
        rw [hrm] at hn0 hn1
        clear hrm e2 h1 h2 h3 hX hY H1
        have hp1 := eq_true hx0
        have hp2 := eq_true hx1
        clear hx0 hx1
        go_wp2_with (first
          | ((with_reducible refine gate_dst (N := 7) rfl ?_); refine boxB CX 44 #[.int .i64 0, .int .i64 0] ?_; clear CX; intro g7 w5 CX hb_; replace hn0 := zcm hb_ hn0; replace hn1 := zcm hb_ hn1; clear hb_)
          | ((with_reducible refine gate_store (t := 44) (p := 7) rfl ?_); refine storeW CX (Cx.wh0n2) (st44 (CX.out.blk 0 rfl)) ?_; clear CX; intro w6 CX; clear hn0 hn1))
        replace CX := Aside0.mk CX.out.drew1
        refine start_ (n := 7) (S := fun w' => w'.cell? ⟨g7, 1, none⟩ = some (.int .i64 m.f1) ∧ w'.cell? ⟨g5, 1, none⟩ = some (.int .i64 b.f1)) (ds := []) (lB 7 0) (by kernel_rfl) rfl (by kernel_rfl) ⟨CX.out.cell 0 1 rfl rfl, CX.out.cell 1 1 rfl rfl⟩ (fun hHeld => ?_); refine with_tabW euclid_reduce.tab6 euclid_reduce.bits6 (fun HT_ HW_ => ?_)
        generalize w6.drew = w7 at CX hHeld ⊢
        refine pureA 0 37 (lB 7 1) ?_
        refine takeA 1 38 (lB 7 3) ?_
        refine pureA 3 40 (lB 7 11) ?_
        refine takeA 4 41 (lB 7 27) ?_
        refine one_ (i := 2) (N := some 39) (lB 7 31) rfl rfl (one_of HT_.out (by kernel_rfl)) (by decide) (fun K hK => ?_)
        refine call_ 62 #[.int .i64 m.f1] (by rfl) rfl ?hrun_ ?_
        case hrun_ => first | (go_simp; done) | (go_simp; rfl)
        refine (euclid_far.calls m.f1 X w7 HX.out).mono ?_
        rintro e_ w8 ⟨rfl, hb⟩
        refine ⟨_, rfl, ?_⟩
        replace CX := Aside0.mk (CX.out.drawn hb)
        clear hb
        refine hK.out _ _ ⟨CX.out.cell 0 1 rfl rfl, CX.out.cell 1 1 rfl rfl⟩ (fun hHeld => ?_)
        clear hK K
        refine normA 39 ?_
        refine one_ (i := 5) (N := some 42) (lB 7 63) rfl rfl (one_of HT_.out (by kernel_rfl)) (by decide) (fun K hK => ?_)
        refine call_ 62 #[.int .i64 b.f1] (by rfl) rfl ?hrun_ ?_
        case hrun_ => first | (go_simp; done) | (go_simp; rfl)
        refine (euclid_far.calls b.f1 Y w8 HY.out).mono ?_
        rintro e_ w9 ⟨rfl, hb⟩
        refine ⟨_, rfl, ?_⟩
        replace CX := Aside0.mk (CX.out.drawn hb)
        clear hb
        refine hK.out _ _ ⟨CX.out.cell 0 1 rfl rfl, CX.out.cell 1 1 rfl rfl⟩ (fun hHeld => ?_)
        clear hK K
        refine normA 42 ?_
        refine pureA 6 43 (lB 7 127) ?_
        refine done_ (done_of HT_.out (by kernel_rfl)) ?_
        by_cases hXY : X < Y
        · have hxy : decide (X < Y) = true := decide_eq_true hXY
          have H1n := Aside0.mk (show euclid_reduce.l1 rest m = some B by have h := H1'.out; rw [if_pos hXY] at h; exact h)
          have hc_g7_0 := ze0 (CX.out.blk 0 rfl)
          have hc_g7_1 := ze1 (CX.out.blk 0 rfl)
          go_wp2_with (first
            | ((with_reducible refine gate_store (t := 44) (p := 5) rfl ?_); refine storeW CX (Cx.wh1n2) (st44 (CX.out.blk 1 rfl)) ?_; clear CX; intro w10 CX; clear hc_g7_0 hc_g7_1))
          go_roundg gki
          case measure => omega
          case rel =>
            have CX3 := CX.out.drop 1
            refine ⟨_, zs ++ [m], rest, m, rfl, ⟨?_, ?_, ?_⟩, H1n, ⟨CX3⟩⟩
            · have h1 := HI.out.1; have h2 := HLL.out; have h3 := HL.out.1; rw [List.length_cons] at h2; rw [List.length_append, List.length_singleton]; unfold wrap64; omega
            · have h1 := HI.out.2.1; rw [List.length_cons] at h1; omega
            · rw [List.append_assoc]; exact HI.out.2.2
        · have hxy : decide (X < Y) = false := decide_eq_false hXY
          have H1n := Aside0.mk (show euclid_reduce.l1 rest b = some B by have h := H1'.out; rw [if_neg hXY] at h; exact h)
          go_wp2
          go_roundg gki
          case measure => omega
          case rel =>
            have CX3 := CX.out.drop 1
            refine ⟨_, zs ++ [m], rest, b, rfl, ⟨?_, ?_, ?_⟩, H1n, ⟨CX3⟩⟩
            · have h1 := HI.out.1; have h2 := HLL.out; have h3 := HL.out.1; rw [List.length_cons] at h2; rw [List.length_append, List.length_singleton]; unfold wrap64; omega
            · have h1 := HI.out.2.1; rw [List.length_cons] at h1; omega
            · rw [List.append_assoc]; exact HI.out.2.2
      | nil =>
        have c1 : decide (x < (F.f1.length : Int)) = false := decide_eq_false (by have := HI.out.1; have h2 := HLL.out; rw [List.length_nil] at h2; omega)
        obtain rfl : b = B := by
          have h := H1.out
          simp only [euclid_reduce.l1, Option.some.injEq] at h
          exact h
        obtain ⟨G, hG⟩ : ∃ G, G = F := ⟨_, rfl⟩
        have HG := Aside0.mk hG
        clear H1 HI HLL hG
        have hc_g3_0 := ze0 (CX.out.blk 2 rfl)
        have hc_g3_1 := ze1 (CX.out.blk 2 rfl)
        go_wp2
        clear hc_g3_0 hc_g3_1
        go_loopg [49] F.f1.length (fun gk v49 w' => ∃ (x : Int) (zs rest : List S44) (E : S41) (us : List S41) (e1 : Int) (d_ : Array Value) (Ae : Option Addr) (ce : Nat), v49 = .int .i64 x ∧ Aside0 (x = (zs.length : Int) ∧ gk = rest.length ∧ zs ++ rest = F.f1) ∧ Aside0 (euclid_reduce.l2 k b rest E us e1 = some s ∧ e1 = 0) ∧ Aside0 (VD d_ n ∧ us.length = n) ∧ Aside0 (Cx w (fun b => b = gW ∨ (0 < n ∧ b = gV)) M (fun _ => False) (TWk gW gV n Av cv (pv) (e1) d_) (PA (PA (PV k44 44 (.slice Ae E.f1.length ce) E.f1) (VE n0 d_ us)) (PV k44 44 (.slice (some adl) F.f1.length cf) F.f1)) w' [(g5, #[.int .i64 b.f0, .int .i64 b.f1], 44), (g4, #[.int .i64 0, .slice none 0 0], 41), (g3, #[.int .i64 E.f0, .slice Ae E.f1.length ce], 41)]))
        case atStart => exact ⟨0, [], F.f1, F, zs_, 0, c_, (some adl), cf, rfl, ⟨rfl, rfl, rfl⟩, ⟨H2.out, rfl⟩, HV, ⟨CX.out.withP (P' := (PA (PA (PV k44 44 (.slice (some adl) F.f1.length cf) F.f1) (VE n0 c_ zs_)) (PV k44 44 (.slice (some adl) F.f1.length cf) F.f1))) ⟨CX.out.p, CX.out.p.1⟩ (gPA (gPA gPV (good_VE _ _ _)) gPV)⟩⟩
        case round =>
        clear CX H2 HV HG
        obtain ⟨x, zs, rest, E, us, e1, d_, Ae, ce, rfl, HI, H2, HV, CX⟩ := hrel
        have hll : zs.length + rest.length = F.f1.length := by rw [← List.length_append, HI.out.2.2]
        have HLL := Aside0.mk hll
        clear hll
        cases rest with
        | nil =>
          have c1 : decide (x < (F.f1.length : Int)) = false := decide_eq_false (by have := HI.out.1; have h2 := HLL.out; rw [List.length_nil] at h2; omega)
          have h2 := H2.out.1
          simp only [euclid_reduce.l2, Option.some.injEq] at h2
          have hO := HO.out
          rw [← h2] at hO
          have HO2 := Aside0.mk hO
          clear h2 hO
          go_wp2
          go_roundg gko
          case measure => omega
          case rel =>
            have CX3 := (CX.out.withP (P' := (PA (PV k44 44 (.slice Ae E.f1.length ce) E.f1) (VE n0 d_ us))) CX.out.p.1 (gPA gPV (good_VE _ _ _))).drop 1
            exact ⟨E, us, e1, d_, Ae, ce, ⟨HO2.out⟩, HV, ⟨CX3⟩⟩
        | cons m rest =>
          obtain ⟨gki, rfl⟩ : ∃ gki, gk = gki + 1 := ⟨gk - 1, by have := HI.out.2.1; rw [List.length_cons] at this; omega⟩
          have h2 := H2.out.1
          have he1 := H2.out.2
          simp only [euclid_reduce.l2] at h2
          have hx0 : 0 ≤ x := by have := HI.out.1; omega
          have hx1 : x < (F.f1.length : Int) := by have := HI.out.1; have h2 := HLL.out; rw [List.length_cons] at h2; omega
          have c1 : decide (x < (F.f1.length : Int)) = true := decide_eq_true hx1
          obtain ⟨adm, e2, hn0, hn1⟩ := at_T44 (Kd.V_reads' CX.out.p.2).2.2 x hx0 hx1
          have e3 := Option.some.inj e2
          subst e3
          have hrm : rd_T44 F.f1 x = m := by rw [← HI.out.2.2, HI.out.1]; simp [rd_T44]
          rw [hrm] at hn0 hn1
          clear hrm e2 H2
          have hp1 := eq_true hx0
          have hp2 := eq_true hx1
          subst he1
          clear hx0 hx1
          go_upto_if 57 with (first
            | ((with_reducible refine gate_dst (N := 9) rfl ?_); refine boxB CX 44 #[.int .i64 0, .int .i64 0] ?_; clear CX; intro g9 w5 CX hb_; replace hn0 := zcm hb_ hn0; replace hn1 := zcm hb_ hn1; clear hb_)
            | ((with_reducible refine gate_store (t := 44) (p := 9) rfl ?_); refine storeW CX (Cx.wh0n2) (st44 (CX.out.blk 0 rfl)) ?_; clear CX; intro w6 CX; clear hn0 hn1; have hc_g9_0 := ze0 (CX.out.blk 0 rfl); have hc_g9_1 := ze1 (CX.out.blk 0 rfl); have hc_g5_0 := ze0 (CX.out.blk 1 rfl); have hc_g5_1 := ze1 (CX.out.blk 1 rfl)))
          by_cases hv : m.f0 = b.f0
          · have hvb : (m.f0 == b.f0) = true := beq_iff_eq.mpr hv
            rw [if_pos hv] at h2
            have H2n := Aside0.mk h2
            clear h2 hv
            go_wp2
            go_roundg gki
            case measure => omega
            case rel =>
              refine ⟨_, zs ++ [m], rest, E, us, 0, d_, Ae, ce, rfl, ⟨?_, ?_, ?_⟩, ⟨H2n.out, rfl⟩, HV, ⟨CX.out.drop 1⟩⟩
              · have h1 := HI.out.1; have h2 := HLL.out; have h3 := HL.out.1; rw [List.length_cons] at h2; rw [List.length_append, List.length_singleton]; unfold wrap64; omega
              · have h1 := HI.out.2.1; rw [List.length_cons] at h1; omega
              · rw [List.append_assoc]; exact HI.out.2.2
          have hvb : (m.f0 == b.f0) = false := beq_eq_false_iff_ne.mpr hv
          rw [if_neg hv] at h2
          obtain ⟨⟨d, dok⟩, hd, h3⟩ := Option.bind_eq_some_iff.1 h2
          obtain ⟨⟨q, qok⟩, hq, h4⟩ := Option.bind_eq_some_iff.1 h3
          have HD := Aside0.mk hd
          have HQ := Aside0.mk hq
          have HVB := Aside0.mk hv
          clear hd hq hv h2 h3
          go_upto_region 15 with (first
            | ((go_at_call 58); refine (num_Div.calls m.f1 b.f1 _ _ w6 HD.out).mono ?_; rintro e w7 ⟨rfl, hb⟩; replace CX := Aside0.mk (CX.out.drawn hb); clear hb; clear hc_g9_0 hc_g9_1 hc_g5_0 hc_g5_1)
            | ((go_at_call 59); refine (num_Neg.calls d _ _ w7 HQ.out).mono ?_; rintro e w8 ⟨rfl, hb⟩; replace CX := Aside0.mk (CX.out.drawn hb); clear hb; have hc_g3_0 := ze0 (CX.out.blk 3 rfl); have hc_g3_1 := ze1 (CX.out.blk 3 rfl); have hc_g5_0 := ze0 (CX.out.blk 1 rfl); have hc_g5_1 := ze1 (CX.out.blk 1 rfl)))
          by_cases hok : (dok && qok) = true
          case neg =>
            rw [if_neg hok] at h4
            simp only [Option.some.injEq] at h4
            have hO := HO.out
            rw [← h4, if_pos rfl] at hO
            simp only [Option.some.injEq, Prod.mk.injEq] at hO
            obtain ⟨rfl, rfl, rfl⟩ := hO
            have hnot : dok = false ∨ (dok = true ∧ qok = false) := by
              cases dok with
              | false => exact .inl rfl
              | true => cases qok with
                | false => exact .inr ⟨rfl, rfl⟩
                | true => exact absurd rfl hok
            clear hok HO h4
            rcases hnot with hno | ⟨hno, hnm⟩
            · subst hno
              go_wp2_with (first
                | ((with_reducible refine gate_store (t := 26) (p := 79) rfl ?_); have hq_0 : w8.cell? ⟨gW, 2, none⟩ = some (.int .i64 (0)) := (blk_cell CX.out.t.1 2).trans rfl; have hz_0 : w8.frozen? ⟨gW, 2, none⟩ = false := blk_frozen CX.out.t.1 2; refine store_event (t := 26) (p := 79) (v := ?vo_1) (w1 := (w8.setCell ⟨gW, 2, none⟩ (.int .i64 (5)))) ?hg ?ho ?hn ?hr ?_; (case ho => rfl); (case hg => rfl); (case hn => rfl); (case hr => first | (go_simp; done) | (go_simp; rfl)); intro w9 hw; replace CX := Aside0.mk (CX.out.turn (Fs.set _ gW 2 (.int .i64 (5))) (fun b e => by subst e; exact HM.out.2.1) (fun _ h _ => .inl h) (T' := (TWk gW gV n Av cv (pv) (5) d_)) ⟨blk_put CX.out.t.1 2 _ rfl, fun h0 => blk_far (CX.out.t.2 h0) (p := ⟨gW, 2, none⟩) (HM.out.2.2.2.1 h0) _⟩ (tTA (tTB HM.out.2.1) (tTI (tTB HM.out.2.2.1)))); rw [← hw] at CX; clear hw hq_0 hz_0; clear hc_g3_0 hc_g3_1 hc_g5_0 hc_g5_1; have hc_g3_0 := ze0 (CX.out.blk 3 rfl); have hc_g3_1 := ze1 (CX.out.blk 3 rfl))
                | ((with_reducible refine gate_store (t := 41) (p := 4) rfl ?_); refine storeW CX (Cx.wh2n2) (st41 (CX.out.blk 2 rfl)) ?_; clear CX; intro w10 CX; clear hc_g3_0 hc_g3_1))
              refine bodyPost_ret (v := .agg #[.int .i64 E.f0, .slice Ae E.f1.length ce]) ?hres ?hdef ?_
              case hdef => rfl
              case hres => exact results_single rfl (Vals.cell g4 41 #[.int .i64 E.f0, .slice Ae E.f1.length ce] (0, 0) _ rfl (CX.out.blk 2 rfl) Try.underlying41 rfl (by kernel_rfl) .nil)
              refine ⟨_, rfl, Kd.V_mono CX.out.p.1.1 (fun b hb hm => hb (.inl hm)), CX.out.fs, CX.out.t.1, _, CX.out.t.2, (good_VE _ _ _).mono CX.out.p.1.2 (fun b _ hm => .inl hm), HV.out.1, HV.out.2⟩
            · subst hno
              subst hnm
              go_wp2_with (first
                | ((with_reducible refine gate_store (t := 26) (p := 79) rfl ?_); have hq_0 : w8.cell? ⟨gW, 2, none⟩ = some (.int .i64 (0)) := (blk_cell CX.out.t.1 2).trans rfl; have hz_0 : w8.frozen? ⟨gW, 2, none⟩ = false := blk_frozen CX.out.t.1 2; refine store_event (t := 26) (p := 79) (v := ?vo_2) (w1 := (w8.setCell ⟨gW, 2, none⟩ (.int .i64 (5)))) ?hg ?ho ?hn ?hr ?_; (case ho => rfl); (case hg => rfl); (case hn => rfl); (case hr => first | (go_simp; done) | (go_simp; rfl)); intro w9 hw; replace CX := Aside0.mk (CX.out.turn (Fs.set _ gW 2 (.int .i64 (5))) (fun b e => by subst e; exact HM.out.2.1) (fun _ h _ => .inl h) (T' := (TWk gW gV n Av cv (pv) (5) d_)) ⟨blk_put CX.out.t.1 2 _ rfl, fun h0 => blk_far (CX.out.t.2 h0) (p := ⟨gW, 2, none⟩) (HM.out.2.2.2.1 h0) _⟩ (tTA (tTB HM.out.2.1) (tTI (tTB HM.out.2.2.1)))); rw [← hw] at CX; clear hw hq_0 hz_0; clear hc_g3_0 hc_g3_1 hc_g5_0 hc_g5_1; have hc_g3_0 := ze0 (CX.out.blk 3 rfl); have hc_g3_1 := ze1 (CX.out.blk 3 rfl))
                | ((with_reducible refine gate_store (t := 41) (p := 4) rfl ?_); refine storeW CX (Cx.wh2n2) (st41 (CX.out.blk 2 rfl)) ?_; clear CX; intro w10 CX; clear hc_g3_0 hc_g3_1))
              refine bodyPost_ret (v := .agg #[.int .i64 E.f0, .slice Ae E.f1.length ce]) ?hres ?hdef ?_
              case hdef => rfl
              case hres => exact results_single rfl (Vals.cell g4 41 #[.int .i64 E.f0, .slice Ae E.f1.length ce] (0, 0) _ rfl (CX.out.blk 2 rfl) Try.underlying41 rfl (by kernel_rfl) .nil)
              refine ⟨_, rfl, Kd.V_mono CX.out.p.1.1 (fun b hb hm => hb (.inl hm)), CX.out.fs, CX.out.t.1, _, CX.out.t.2, (good_VE _ _ _).mono CX.out.p.1.2 (fun b _ hm => .inl hm), HV.out.1, HV.out.2⟩
          case pos =>
            rw [if_pos hok] at h4
            rw [Bool.and_eq_true] at hok
            obtain ⟨rfl, rfl⟩ := hok
            obtain ⟨⟨r1, r2, r3⟩, hq, h5⟩ := Option.bind_eq_some_iff.1 h4
            have HQP := Aside0.mk hq
            have H2n := Aside0.mk h5
            clear h4 h5 hq
            go_upto_if 87 with (first
              | ((with_reducible refine gate_dst (N := 84) rfl ?_); refine Kd.R_lit (w0 := w8) k44 _ 44 ?hg (N := 84) ?hd (xs := ([⟨b.f0, 1⟩] : List S44)) (inner := [.int .i64 b.f0, .int .i64 1]) (ok := fun _ => True) (okp := fun _ => True) ?hr ?hp (fun _ hk => hk) trivial (Below.refl _ _) (Nat.le_refl _) (by simp) ?_; (case hd => rfl); (case hg => rfl); (case hr => first | (go_simp; done) | (go_simp; rfl)); (case hp => exact (Reps.c2 (k44_mkM _ _ _ (⟨b.f0, 1⟩ : S44)) (Reps.none _ _))); intro vt w9 ho hb hg_ hnew_; obtain ⟨At, ct, et_⟩ := Kd.R_slice ho; subst et_; obtain ⟨RB, CX2⟩ := CX.out.rows' (T' := (TA (TWk gW gV n Av cv (pv) (0) d_) (TR k44 44 w.heap.size (.slice At 1 ct) [⟨b.f0, 1⟩]))) (Fs.of_below hb) (fun RB' r1 r2 => ⟨⟨blk_below CX.out.t.1 hb, fun h0 => blk_below (CX.out.t.2 h0) hb⟩, Kd.R_lower (Kd.R_mono (Kd.R_bound ho) (fun k hk => r2 k hk.2.1 hk.2.2.1)) CX.out.fs.size⟩) (tTA (tTA (tTB HM.out.2.1) (tTI (tTB HM.out.2.2.1))) tTR); replace CX := Aside0.mk CX2; clear CX2 ho hb hg_ hnew_; clear hc_g3_0 hc_g3_1 hc_g5_0 hc_g5_1; have hc_g3_0 := ze0 (CX.out.blk 3 rfl); have hc_g3_1 := ze1 (CX.out.blk 3 rfl); have hc_g5_0 := ze0 (CX.out.blk 1 rfl); have hc_g5_1 := ze1 (CX.out.blk 1 rfl))
              | ((with_reducible refine gate_dst (N := 14) rfl ?_); refine boxA CX 41 #[.int .i64 0, .slice none 0 0] ?_; clear CX; intro g14 w10 CX; clear hc_g3_0 hc_g3_1 hc_g5_0 hc_g5_1; have hc_g9_0 := ze0 (CX.out.blk 1 rfl); have hc_g9_1 := ze1 (CX.out.blk 1 rfl); have hc_g5_0 := ze0 (CX.out.blk 2 rfl); have hc_g5_1 := ze1 (CX.out.blk 2 rfl))
              | ((with_reducible refine gate_store (t := 41) (p := 14) rfl ?_); refine storeW CX (Cx.wh0n2) (st41 (CX.out.blk 0 rfl)) ?_; clear CX; intro w11 CX; clear hc_g9_0 hc_g9_1 hc_g5_0 hc_g5_1; have hc_g14_0 := ze0 (CX.out.blk 0 rfl); have hc_g14_1 := ze1 (CX.out.blk 0 rfl); have hc_g9_0 := ze0 (CX.out.blk 1 rfl); have hc_g9_1 := ze1 (CX.out.blk 1 rfl); have hc_g5_0 := ze0 (CX.out.blk 2 rfl); have hc_g5_1 := ze1 (CX.out.blk 2 rfl); have hc_g3_0 := ze0 (CX.out.blk 4 rfl); have hc_g3_1 := ze1 (CX.out.blk 4 rfl)))
            by_cases hq0 : q = 0
            · have hqb : (q != 0) = false := by rw [hq0]; rfl
              have HTLe : euclid_toL b m q = [⟨b.f0, 1⟩] := by unfold euclid_toL; rw [if_pos hq0]
              have HQP2 := HQP
              rw [HTLe] at HQP2
              replace HQP := HQP2
              clear HQP2 HTLe
              clear hq0
              by_cases hr3 : r3 = 0
              · have hrb : (r3 != 0) = false := by rw [hr3]; rfl
                have H2m := Aside0.mk (show euclid_reduce.l2 k b rest r1 r2 r3 = some s by have h := H2n.out; rw [if_pos hr3] at h; exact h)
                have HR3 := Aside0.mk hr3
                clear hr3
                go_wp2_with (first
                  | ((go_at_call 63); have hVt := CX.out.frees CX.out.t.2; replace CX := Aside0.mk (CX.out.shrink (T' := (TWk gW gV n Av cv (pv) (0) d_)) (P' := (PA (PA (PA (PV k44 44 (.slice Ae E.f1.length ce) E.f1) (VE n0 d_ us)) (PV k44 44 (.slice (some adl) F.f1.length cf) F.f1)) (PV k44 44 (.slice At 1 ct) [⟨b.f0, 1⟩]))) CX.out.t.1 (tTA (tTB HM.out.2.1) (tTI (tTB HM.out.2.2.1))) (fun hp => ⟨hp, hVt⟩) (gPA (gPA (gPA gPV (good_VE _ _ _)) gPV) gPV)); clear hVt; refine (euclid_put.callsN k n0 n (Nx M (fun _ => False) [(g14, #[.int .i64 0, .slice At 1 ct], 41), (g9, #[.int .i64 m.f0, .int .i64 m.f1], 44), (g5, #[.int .i64 b.f0, .int .i64 b.f1], 44), (g4, #[.int .i64 0, .slice none 0 0], 41), (g3, #[.int .i64 E.f0, .slice Ae E.f1.length ce], 41)]) gW gV Av cv pv 0 d_ us E.f0 Ae ce E.f1 b.f0 0 At ct [⟨b.f0, 1⟩] ⟨r1.f0, r1.f1⟩ r2 r3 w11 CX.out.lt (.inl HM.out.2.1) (.inl HM.out.2.2.1) HM.out.2.2.2.1 HA.out HM.out.2.2.2.2.1 (Nat.le_trans HM.out.2.2.2.2.2 CX.out.fs.size) HV.out.2 CX.out.t.1 CX.out.t.2 CX.out.p.1.1.2 HV.out.1 CX.out.p.1.1.1 CX.out.p.2 HQP.out).mono ?_; rintro e w12 ⟨v, rfl, hr, hf, hw, dn, hv, hve, hvd, hle⟩; have HF := Aside0.mk (CX.out.fresh (hf.size) hr); replace CX := Aside0.mk (CX.out.turn hf (fun b e => e.elim (fun e => by subst e; exact HM.out.2.1) (fun e => by have e := e.2; subst e; exact HM.out.2.2.1)) (fun _ h _ => h) (T' := (TWk gW gV n Av cv (pv) (r3) dn)) ⟨hw, hv⟩ (tTA (tTB HM.out.2.1) (tTI (tTB HM.out.2.2.1)))); obtain ⟨Ar, cr, er_⟩ := Kd.R_slice HF.out; subst er_; replace CX := Aside0.mk (CX.out.withP (P' := (PA (PA (PV k44 44 (.slice Ar r1.f1.length cr) r1.f1) (VE n0 dn r2)) (PV k44 44 (.slice (some adl) F.f1.length cf) F.f1))) ⟨⟨Kd.R_V HF.out, hve⟩, CX.out.p.1.2⟩ (gPA (gPA gPV (good_VE _ _ _)) gPV)); replace HV := Aside0.mk (And.intro hvd hle); clear hr hf hw hv hve hvd hle HF; clear hc_g14_0 hc_g14_1 hc_g9_0 hc_g9_1 hc_g5_0 hc_g5_1 hc_g3_0 hc_g3_1)
                  | ((with_reducible refine gate_store (t := 41) (p := 3) rfl ?_); refine storeW CX (Cx.wh4n2) (st41 (CX.out.blk 4 rfl)) ?_; clear CX; intro w13 CX; have hc_g3_0 := ze0 (CX.out.blk 4 rfl); have hc_g3_1 := ze1 (CX.out.blk 4 rfl); have hx_e : w13.cell? ⟨gW, 2, none⟩ = some (.int .i64 (r3)) := (blk_cell CX.out.t.1 2).trans rfl))
                go_roundg gki
                case measure => omega
                case rel =>
                  refine ⟨_, zs ++ [m], rest, ⟨r1.f0, r1.f1⟩, r2, r3, dn, Ar, cr, rfl, ⟨?_, ?_, ?_⟩, ⟨H2m.out, HR3.out⟩, HV, ⟨CX.out.drop 2⟩⟩
                  · have h1 := HI.out.1; have h2 := HLL.out; have h3 := HL.out.1; rw [List.length_cons] at h2; rw [List.length_append, List.length_singleton]; unfold wrap64; omega
                  · have h1 := HI.out.2.1; rw [List.length_cons] at h1; omega
                  · rw [List.append_assoc]; exact HI.out.2.2
              · have hrb : (r3 != 0) = true := bne_iff_ne.mpr hr3
                have hO := HO.out
                have h2 := H2n.out
                rw [if_neg hr3] at h2
                simp only [Option.some.injEq] at h2
                rw [← h2, if_pos rfl] at hO
                simp only [Option.some.injEq, Prod.mk.injEq] at hO
                obtain ⟨rfl, rfl, rfl⟩ := hO
                clear h2 HO H2n hr3
                go_wp2_with (first
                  | ((go_at_call 63); have hVt := CX.out.frees CX.out.t.2; replace CX := Aside0.mk (CX.out.shrink (T' := (TWk gW gV n Av cv (pv) (0) d_)) (P' := (PA (PA (PA (PV k44 44 (.slice Ae E.f1.length ce) E.f1) (VE n0 d_ us)) (PV k44 44 (.slice (some adl) F.f1.length cf) F.f1)) (PV k44 44 (.slice At 1 ct) [⟨b.f0, 1⟩]))) CX.out.t.1 (tTA (tTB HM.out.2.1) (tTI (tTB HM.out.2.2.1))) (fun hp => ⟨hp, hVt⟩) (gPA (gPA (gPA gPV (good_VE _ _ _)) gPV) gPV)); clear hVt; refine (euclid_put.callsN k n0 n (Nx M (fun _ => False) [(g14, #[.int .i64 0, .slice At 1 ct], 41), (g9, #[.int .i64 m.f0, .int .i64 m.f1], 44), (g5, #[.int .i64 b.f0, .int .i64 b.f1], 44), (g4, #[.int .i64 0, .slice none 0 0], 41), (g3, #[.int .i64 E.f0, .slice Ae E.f1.length ce], 41)]) gW gV Av cv pv 0 d_ us E.f0 Ae ce E.f1 b.f0 0 At ct [⟨b.f0, 1⟩] ⟨r1.f0, r1.f1⟩ r2 r3 w11 CX.out.lt (.inl HM.out.2.1) (.inl HM.out.2.2.1) HM.out.2.2.2.1 HA.out HM.out.2.2.2.2.1 (Nat.le_trans HM.out.2.2.2.2.2 CX.out.fs.size) HV.out.2 CX.out.t.1 CX.out.t.2 CX.out.p.1.1.2 HV.out.1 CX.out.p.1.1.1 CX.out.p.2 HQP.out).mono ?_; rintro e w12 ⟨v, rfl, hr, hf, hw, dn, hv, hve, hvd, hle⟩; have HF := Aside0.mk (CX.out.fresh (hf.size) hr); replace CX := Aside0.mk (CX.out.turn hf (fun b e => e.elim (fun e => by subst e; exact HM.out.2.1) (fun e => by have e := e.2; subst e; exact HM.out.2.2.1)) (fun _ h _ => h) (T' := (TWk gW gV n Av cv (pv) (r3) dn)) ⟨hw, hv⟩ (tTA (tTB HM.out.2.1) (tTI (tTB HM.out.2.2.1)))); obtain ⟨Ar, cr, er_⟩ := Kd.R_slice HF.out; subst er_; replace CX := Aside0.mk (CX.out.withP (P' := (PA (PA (PV k44 44 (.slice Ar r1.f1.length cr) r1.f1) (VE n0 dn r2)) (PV k44 44 (.slice (some adl) F.f1.length cf) F.f1))) ⟨⟨Kd.R_V HF.out, hve⟩, CX.out.p.1.2⟩ (gPA (gPA gPV (good_VE _ _ _)) gPV)); replace HV := Aside0.mk (And.intro hvd hle); clear hr hf hw hv hve hvd hle HF; clear hc_g14_0 hc_g14_1 hc_g9_0 hc_g9_1 hc_g5_0 hc_g5_1 hc_g3_0 hc_g3_1)
                  | ((with_reducible refine gate_store (t := 41) (p := 3) rfl ?_); refine storeW CX (Cx.wh4n2) (st41 (CX.out.blk 4 rfl)) ?_; clear CX; intro w13 CX; have hc_g3_0 := ze0 (CX.out.blk 4 rfl); have hc_g3_1 := ze1 (CX.out.blk 4 rfl); have hx_e : w13.cell? ⟨gW, 2, none⟩ = some (.int .i64 (r3)) := (blk_cell CX.out.t.1 2).trans rfl)
                  | ((with_reducible refine gate_store (t := 41) (p := 4) rfl ?_); refine storeW CX (Cx.wh3n2) (st41 (CX.out.blk 3 rfl)) ?_; clear CX; intro w14 CX; clear hc_g3_0 hc_g3_1 hx_e))
                refine bodyPost_ret (v := .agg #[.int .i64 r1.f0, .slice Ar r1.f1.length cr]) ?hres ?hdef ?_
                case hdef => rfl
                case hres => exact results_single rfl (Vals.cell g4 41 #[.int .i64 r1.f0, .slice Ar r1.f1.length cr] (0, 0) _ rfl (CX.out.blk 3 rfl) Try.underlying41 rfl (by kernel_rfl) .nil)
                refine ⟨_, rfl, Kd.V_mono CX.out.p.1.1 (fun b hb hm => hb (.inl hm)), CX.out.fs, CX.out.t.1, _, CX.out.t.2, (good_VE _ _ _).mono CX.out.p.1.2 (fun b _ hm => .inl hm), HV.out.1, HV.out.2⟩
            · have hqb : (q != 0) = true := bne_iff_ne.mpr hq0
              go_upto_if 101 with (first
                | ((with_reducible refine gate_builtin (b := .append) (xs := #[.tmp 89, .tmp 94]) rfl ?_); at_builtin; refine Kd.R_append k44 (w0 := w11) w.heap.size rfl (.tmp 89) (.tmp 94) 39 44 (.agg #[(.int .i64 0), (.int .i64 0)]) 16 rfl Try.underlying39 info44 rfl (by decide) (by omega) (.slice At 1 ct) [⟨b.f0, 1⟩] (⟨m.f0, q⟩ : S44) [.int .i64 m.f0, .int .i64 q] (fun k_ => RB k_ ∨ w11.heap.size ≤ k_) (fun _ => False) rfl rfl ?aP (fun _ hk => hk.elim) (fun _ h => .inr h) ?aO (Below.refl _ _) CX.out.fs.size ?aL ?_; (case aP => exact k44_mkM _ _ _ (⟨m.f0, q⟩ : S44)); (case aO => exact Kd.R_mono CX.out.t.2 (fun _ h => .inl h)); (case aL => show (1 + 1) * 16 ≤ 140737488355328; omega); intro vt2 w12 ho hb hg hat; replace ho : Kd.R k44 44 w12 w.heap.size (fun k_ => RB k_ ∨ w11.heap.size ≤ k_) vt2 [⟨b.f0, 1⟩, ⟨m.f0, q⟩] := ho; obtain ⟨gT, c2, ev_, _, _, _⟩ := Kd.R_form ho (by show 0 < 2; omega); replace ev_ : vt2 = .slice (some ⟨gT, 0, none⟩) 2 c2 := ev_; subst ev_; have hFs := (Fs.grown hg).mono (S' := RB) (fun b e _ => (CX.out.t.2).1 b e); obtain ⟨RB2, CX2⟩ := CX.out.rows' (T' := (TA (TWk gW gV n Av cv (pv) (0) d_) (TR k44 44 w.heap.size (.slice (some ⟨gT, 0, none⟩) 2 c2) [⟨b.f0, 1⟩, ⟨m.f0, q⟩]))) hFs (fun RB' r1 r2 => ⟨⟨CX.out.keepM hFs HM.out.2.1 CX.out.t.1.1, fun h0 => CX.out.keepM hFs HM.out.2.2.1 (CX.out.t.1.2 h0)⟩, Kd.R_mono (Kd.R_bound ho) (fun k hk => hk.1.elim (r1 k) (fun h => r2 k h hk.2.2.1))⟩) (tTA (tTA (tTB HM.out.2.1) (tTI (tTB HM.out.2.2.1))) tTR); replace CX := Aside0.mk CX2; clear CX2 ho hb hg hat hFs; clear hc_g14_0 hc_g14_1 hc_g9_0 hc_g9_1 hc_g5_0 hc_g5_1 hc_g3_0 hc_g3_1; have hc_g14_0 := ze0 (CX.out.blk 0 rfl); have hc_g14_1 := ze1 (CX.out.blk 0 rfl); have hz_g14_0 := blk_frozen (CX.out.blk 0 rfl) 0; have hz_g14_1 := blk_frozen (CX.out.blk 0 rfl) 1)
                | ((with_reducible refine gate_store (t := 39) (p := 96) rfl ?_); refine storeW CX (Cx.fl0 1 _ #[.int .i64 0, .slice (some ⟨gT, 0, none⟩) 2 c2]) (st39 (CX.out.blk 0 rfl)) ?_; clear CX; intro w13 CX; clear hc_g14_0 hc_g14_1 hz_g14_0 hz_g14_1; have hc_g14_0 := ze0 (CX.out.blk 0 rfl); have hc_g14_1 := ze1 (CX.out.blk 0 rfl); have hc_g9_0 := ze0 (CX.out.blk 1 rfl); have hc_g9_1 := ze1 (CX.out.blk 1 rfl); have hc_g5_0 := ze0 (CX.out.blk 2 rfl); have hc_g5_1 := ze1 (CX.out.blk 2 rfl); have hc_g3_0 := ze0 (CX.out.blk 4 rfl); have hc_g3_1 := ze1 (CX.out.blk 4 rfl)))
              by_cases hlt : m.f0 < b.f0
              · have hltb : decide (m.f0 < b.f0) = true := decide_eq_true hlt
                rw [hltb]
                have HTLe : euclid_toL b m q = [⟨m.f0, q⟩, ⟨b.f0, 1⟩] := by unfold euclid_toL; rw [if_neg hq0, if_pos hlt]
                have HQP2 := HQP
                rw [HTLe] at HQP2
                replace HQP := HQP2
                clear HQP2 HTLe
                clear hq0 hlt HVB
                try go_wp2
                replace CX := Aside0.mk CX.out.drew1
                refine start_ (n := 16) (S := fun w' => w'.cell? ⟨g14, 1, none⟩ = some (.slice (some ⟨gT, 0, none⟩) 2 c2) ∧ w'.cell? ⟨gT, 2, none⟩ = some (.int .i64 m.f0) ∧ w'.cell? ⟨gT, 3, none⟩ = some (.int .i64 q)) (ds := [15]) (lB 16 0) (by kernel_rfl) rfl (by kernel_rfl) ⟨CX.out.cell 0 1 rfl rfl, (R44_cells CX.out.t.2).1.2.2.1, (R44_cells CX.out.t.2).1.2.2.2⟩ (fun hHeld => ?_); refine with_tabW euclid_reduce.tab22 euclid_reduce.bits22 (fun HT_ HW_ => ?_)
                generalize w13.drew = w14 at CX hHeld ⊢
                refine pureA 0 102 (lB 16 1) ?_
                refine takeA 1 103 (lB 16 3) ?_
                refine pureA 2 104 (lB 16 7) ?_
                refine takeA 3 105 (lB 16 15) ?_
                refine pureA 4 106 (lB 16 31) ?_
                refine takeA 5 107 (lB 16 63) ?_
                refine pureA 6 108 (lB 16 127) ?_
                refine takeA 7 109 (lB 16 255) ?_
                refine pureA 8 110 (lB 16 511) ?_
                refine takeA 9 111 (lB 16 1023) ?_
                refine pureA 10 112 (lB 16 2047) ?_
                refine one_ (i := 11) (N := some 113) (lB 16 4095) rfl rfl (one_of HT_.out (by kernel_rfl)) (by decide) (fun K hK => ?_)
                obtain ⟨⟨hk0, hk1, _, _⟩, _⟩ := R44_cells CX.out.t.2
                refine value_ (v := .agg #[.int .i64 b.f0, .int .i64 1]) (w1 := w14) (by rfl) rfl ?hs_ ?_
                case hs_ => first | (go_simp; done) | (go_simp; rfl)
                clear hk0 hk1
                refine hK.out _ _ ⟨CX.out.cell 0 1 rfl rfl, (R44_cells CX.out.t.2).1.2.2.1, (R44_cells CX.out.t.2).1.2.2.2⟩ (fun hHeld => ?_)
                clear hK K
                refine normA 113 ?_
                refine pureA 12 114 (lB 16 8191) ?_
                refine one_ (i := 13) (N := none) (lB 16 16383) rfl rfl (one_of HT_.out (by kernel_rfl)) (by decide) (fun K hK => ?_)
                obtain ⟨⟨hk0, hk1, hk2, hk3⟩, hkf⟩ := R44_cells CX.out.t.2
                have hz0 := hkf 0
                have hz1 := hkf 1
                refine skip_ (w1 := ((w14.setCell ⟨gT, 0, none⟩ (.int .i64 m.f0)).setCell ⟨gT, 1, none⟩ (.int .i64 q))) (by rfl) rfl ?hs_ ?_
                case hs_ => first | (go_simp; done) | (go_simp; rfl)
                have hfs := R44_fs CX.out.t.2 0 (.int .i64 m.f0) (.int .i64 q)
                obtain ⟨RB3, CX3⟩ := CX.out.rows' (T' := (TA (TWk gW gV n Av cv (pv) (0) d_) (TR k44 44 w.heap.size (.slice (some ⟨gT, 0, none⟩) 2 c2) [⟨m.f0, q⟩, ⟨m.f0, q⟩]))) hfs (fun RB' r1 r2 => ⟨⟨CX.out.keepM hfs HM.out.2.1 CX.out.t.1.1, fun h0 => CX.out.keepM hfs HM.out.2.2.1 (CX.out.t.1.2 h0)⟩, Kd.R_mono (R44_put CX.out.t.2 0 (by decide) ⟨m.f0, q⟩) r1⟩) (tTA (tTA (tTB HM.out.2.1) (tTI (tTB HM.out.2.2.1))) tTR)
                replace CX := Aside0.mk CX3
                clear CX3 hk0 hk1 hk2 hk3 hkf hz0 hz1 hfs
                generalize ((w14.setCell ⟨gT, 0, none⟩ (.int .i64 m.f0)).setCell ⟨gT, 1, none⟩ (.int .i64 q)) = w15 at CX ⊢
                refine hK.out _ _ ⟨CX.out.cell 0 1 rfl rfl, (R44_cells CX.out.t.2).1.2.2.1, (R44_cells CX.out.t.2).1.2.2.2⟩ (fun hHeld => ?_)
                clear hK K
                refine pureA 14 115 (lB 16 32767) ?_
                refine last_ (i := 15) (N := none) (lB 16 65535) rfl rfl (one_of HT_.out (by kernel_rfl)) (by decide) (fun K hK => ?_)
                obtain ⟨⟨hk0, hk1, hk2, hk3⟩, hkf⟩ := R44_cells CX.out.t.2
                have hz0 := hkf 2
                have hz1 := hkf 3
                refine skip_ (w1 := ((w15.setCell ⟨gT, 2, none⟩ (.int .i64 b.f0)).setCell ⟨gT, 3, none⟩ (.int .i64 1))) (by rfl) rfl ?hs_ ?_
                case hs_ => first | (go_simp; done) | (go_simp; rfl)
                have hfs := R44_fs CX.out.t.2 2 (.int .i64 b.f0) (.int .i64 1)
                obtain ⟨RB3, CX3⟩ := CX.out.rows' (T' := (TA (TWk gW gV n Av cv (pv) (0) d_) (TR k44 44 w.heap.size (.slice (some ⟨gT, 0, none⟩) 2 c2) [⟨m.f0, q⟩, ⟨b.f0, 1⟩]))) hfs (fun RB' r1 r2 => ⟨⟨CX.out.keepM hfs HM.out.2.1 CX.out.t.1.1, fun h0 => CX.out.keepM hfs HM.out.2.2.1 (CX.out.t.1.2 h0)⟩, Kd.R_mono (R44_put CX.out.t.2 1 (by decide) ⟨b.f0, 1⟩) r1⟩) (tTA (tTA (tTB HM.out.2.1) (tTI (tTB HM.out.2.2.1))) tTR)
                replace CX := Aside0.mk CX3
                clear CX3 hk0 hk1 hk2 hk3 hkf hz0 hz1 hfs
                generalize ((w15.setCell ⟨gT, 2, none⟩ (.int .i64 b.f0)).setCell ⟨gT, 3, none⟩ (.int .i64 1)) = w16 at CX ⊢
                refine hK.out _ _ ?_
                clear hK K
                refine done_ (done_of HT_.out (by kernel_rfl)) ?_
                clear hc_g14_0 hc_g14_1 hc_g9_0 hc_g9_1 hc_g5_0 hc_g5_1 hc_g3_0 hc_g3_1
                have hc_g3_0 := ze0 (CX.out.blk 4 rfl)
                have hc_g3_1 := ze1 (CX.out.blk 4 rfl)
                have hc_g5_0 := ze0 (CX.out.blk 2 rfl)
                have hc_g5_1 := ze1 (CX.out.blk 2 rfl)
                have hc_g14_0 := ze0 (CX.out.blk 0 rfl)
                have hc_g14_1 := ze1 (CX.out.blk 0 rfl)
                by_cases hr3 : r3 = 0
                · have hrb : (r3 != 0) = false := by rw [hr3]; rfl
                  have H2m := Aside0.mk (show euclid_reduce.l2 k b rest r1 r2 r3 = some s by have h := H2n.out; rw [if_pos hr3] at h; exact h)
                  have HR3 := Aside0.mk hr3
                  clear hr3
                  go_wp2_with (first
                    | ((go_at_call 63); have hVt := CX.out.frees CX.out.t.2; replace CX := Aside0.mk (CX.out.shrink (T' := (TWk gW gV n Av cv (pv) (0) d_)) (P' := (PA (PA (PA (PV k44 44 (.slice Ae E.f1.length ce) E.f1) (VE n0 d_ us)) (PV k44 44 (.slice (some adl) F.f1.length cf) F.f1)) (PV k44 44 (.slice (some ⟨gT, 0, none⟩) 2 c2) [⟨m.f0, q⟩, ⟨b.f0, 1⟩]))) CX.out.t.1 (tTA (tTB HM.out.2.1) (tTI (tTB HM.out.2.2.1))) (fun hp => ⟨hp, hVt⟩) (gPA (gPA (gPA gPV (good_VE _ _ _)) gPV) gPV)); clear hVt; refine (euclid_put.callsN k n0 n (Nx M (fun _ => False) [(g14, #[.int .i64 0, .slice (some ⟨gT, 0, none⟩) 2 c2], 41), (g9, #[.int .i64 m.f0, .int .i64 m.f1], 44), (g5, #[.int .i64 b.f0, .int .i64 b.f1], 44), (g4, #[.int .i64 0, .slice none 0 0], 41), (g3, #[.int .i64 E.f0, .slice Ae E.f1.length ce], 41)]) gW gV Av cv pv 0 d_ us E.f0 Ae ce E.f1 b.f0 0 (some ⟨gT, 0, none⟩) c2 [⟨m.f0, q⟩, ⟨b.f0, 1⟩] ⟨r1.f0, r1.f1⟩ r2 r3 w16 CX.out.lt (.inl HM.out.2.1) (.inl HM.out.2.2.1) HM.out.2.2.2.1 HA.out HM.out.2.2.2.2.1 (Nat.le_trans HM.out.2.2.2.2.2 CX.out.fs.size) HV.out.2 CX.out.t.1 CX.out.t.2 CX.out.p.1.1.2 HV.out.1 CX.out.p.1.1.1 CX.out.p.2 HQP.out).mono ?_; rintro e w17 ⟨v, rfl, hr, hf, hw, dn, hv, hve, hvd, hle⟩; have HF := Aside0.mk (CX.out.fresh (hf.size) hr); replace CX := Aside0.mk (CX.out.turn hf (fun b e => e.elim (fun e => by subst e; exact HM.out.2.1) (fun e => by have e := e.2; subst e; exact HM.out.2.2.1)) (fun _ h _ => h) (T' := (TWk gW gV n Av cv (pv) (r3) dn)) ⟨hw, hv⟩ (tTA (tTB HM.out.2.1) (tTI (tTB HM.out.2.2.1)))); obtain ⟨Ar, cr, er_⟩ := Kd.R_slice HF.out; subst er_; replace CX := Aside0.mk (CX.out.withP (P' := (PA (PA (PV k44 44 (.slice Ar r1.f1.length cr) r1.f1) (VE n0 dn r2)) (PV k44 44 (.slice (some adl) F.f1.length cf) F.f1))) ⟨⟨Kd.R_V HF.out, hve⟩, CX.out.p.1.2⟩ (gPA (gPA gPV (good_VE _ _ _)) gPV)); replace HV := Aside0.mk (And.intro hvd hle); clear hr hf hw hv hve hvd hle HF; clear hc_g3_0 hc_g3_1 hc_g5_0 hc_g5_1 hc_g14_0 hc_g14_1)
                    | ((with_reducible refine gate_store (t := 41) (p := 3) rfl ?_); refine storeW CX (Cx.wh4n2) (st41 (CX.out.blk 4 rfl)) ?_; clear CX; intro w18 CX; have hc_g3_0 := ze0 (CX.out.blk 4 rfl); have hc_g3_1 := ze1 (CX.out.blk 4 rfl); have hx_e : w18.cell? ⟨gW, 2, none⟩ = some (.int .i64 (r3)) := (blk_cell CX.out.t.1 2).trans rfl))
                  go_roundg gki
                  case measure => omega
                  case rel =>
                    refine ⟨_, zs ++ [m], rest, ⟨r1.f0, r1.f1⟩, r2, r3, dn, Ar, cr, rfl, ⟨?_, ?_, ?_⟩, ⟨H2m.out, HR3.out⟩, HV, ⟨CX.out.drop 2⟩⟩
                    · have h1 := HI.out.1; have h2 := HLL.out; have h3 := HL.out.1; rw [List.length_cons] at h2; rw [List.length_append, List.length_singleton]; unfold wrap64; omega
                    · have h1 := HI.out.2.1; rw [List.length_cons] at h1; omega
                    · rw [List.append_assoc]; exact HI.out.2.2
                · have hrb : (r3 != 0) = true := bne_iff_ne.mpr hr3
                  have hO := HO.out
                  have h2 := H2n.out
                  rw [if_neg hr3] at h2
                  simp only [Option.some.injEq] at h2
                  rw [← h2, if_pos rfl] at hO
                  simp only [Option.some.injEq, Prod.mk.injEq] at hO
                  obtain ⟨rfl, rfl, rfl⟩ := hO
                  clear h2 HO H2n hr3
                  go_wp2_with (first
                    | ((go_at_call 63); have hVt := CX.out.frees CX.out.t.2; replace CX := Aside0.mk (CX.out.shrink (T' := (TWk gW gV n Av cv (pv) (0) d_)) (P' := (PA (PA (PA (PV k44 44 (.slice Ae E.f1.length ce) E.f1) (VE n0 d_ us)) (PV k44 44 (.slice (some adl) F.f1.length cf) F.f1)) (PV k44 44 (.slice (some ⟨gT, 0, none⟩) 2 c2) [⟨m.f0, q⟩, ⟨b.f0, 1⟩]))) CX.out.t.1 (tTA (tTB HM.out.2.1) (tTI (tTB HM.out.2.2.1))) (fun hp => ⟨hp, hVt⟩) (gPA (gPA (gPA gPV (good_VE _ _ _)) gPV) gPV)); clear hVt; refine (euclid_put.callsN k n0 n (Nx M (fun _ => False) [(g14, #[.int .i64 0, .slice (some ⟨gT, 0, none⟩) 2 c2], 41), (g9, #[.int .i64 m.f0, .int .i64 m.f1], 44), (g5, #[.int .i64 b.f0, .int .i64 b.f1], 44), (g4, #[.int .i64 0, .slice none 0 0], 41), (g3, #[.int .i64 E.f0, .slice Ae E.f1.length ce], 41)]) gW gV Av cv pv 0 d_ us E.f0 Ae ce E.f1 b.f0 0 (some ⟨gT, 0, none⟩) c2 [⟨m.f0, q⟩, ⟨b.f0, 1⟩] ⟨r1.f0, r1.f1⟩ r2 r3 w16 CX.out.lt (.inl HM.out.2.1) (.inl HM.out.2.2.1) HM.out.2.2.2.1 HA.out HM.out.2.2.2.2.1 (Nat.le_trans HM.out.2.2.2.2.2 CX.out.fs.size) HV.out.2 CX.out.t.1 CX.out.t.2 CX.out.p.1.1.2 HV.out.1 CX.out.p.1.1.1 CX.out.p.2 HQP.out).mono ?_; rintro e w17 ⟨v, rfl, hr, hf, hw, dn, hv, hve, hvd, hle⟩; have HF := Aside0.mk (CX.out.fresh (hf.size) hr); replace CX := Aside0.mk (CX.out.turn hf (fun b e => e.elim (fun e => by subst e; exact HM.out.2.1) (fun e => by have e := e.2; subst e; exact HM.out.2.2.1)) (fun _ h _ => h) (T' := (TWk gW gV n Av cv (pv) (r3) dn)) ⟨hw, hv⟩ (tTA (tTB HM.out.2.1) (tTI (tTB HM.out.2.2.1)))); obtain ⟨Ar, cr, er_⟩ := Kd.R_slice HF.out; subst er_; replace CX := Aside0.mk (CX.out.withP (P' := (PA (PA (PV k44 44 (.slice Ar r1.f1.length cr) r1.f1) (VE n0 dn r2)) (PV k44 44 (.slice (some adl) F.f1.length cf) F.f1))) ⟨⟨Kd.R_V HF.out, hve⟩, CX.out.p.1.2⟩ (gPA (gPA gPV (good_VE _ _ _)) gPV)); replace HV := Aside0.mk (And.intro hvd hle); clear hr hf hw hv hve hvd hle HF; clear hc_g3_0 hc_g3_1 hc_g5_0 hc_g5_1 hc_g14_0 hc_g14_1)
                    | ((with_reducible refine gate_store (t := 41) (p := 3) rfl ?_); refine storeW CX (Cx.wh4n2) (st41 (CX.out.blk 4 rfl)) ?_; clear CX; intro w18 CX; have hc_g3_0 := ze0 (CX.out.blk 4 rfl); have hc_g3_1 := ze1 (CX.out.blk 4 rfl); have hx_e : w18.cell? ⟨gW, 2, none⟩ = some (.int .i64 (r3)) := (blk_cell CX.out.t.1 2).trans rfl)
                    | ((with_reducible refine gate_store (t := 41) (p := 4) rfl ?_); refine storeW CX (Cx.wh3n2) (st41 (CX.out.blk 3 rfl)) ?_; clear CX; intro w19 CX; clear hc_g3_0 hc_g3_1 hx_e))
                  refine bodyPost_ret (v := .agg #[.int .i64 r1.f0, .slice Ar r1.f1.length cr]) ?hres ?hdef ?_
                  case hdef => rfl
                  case hres => exact results_single rfl (Vals.cell g4 41 #[.int .i64 r1.f0, .slice Ar r1.f1.length cr] (0, 0) _ rfl (CX.out.blk 3 rfl) Try.underlying41 rfl (by kernel_rfl) .nil)
                  refine ⟨_, rfl, Kd.V_mono CX.out.p.1.1 (fun b hb hm => hb (.inl hm)), CX.out.fs, CX.out.t.1, _, CX.out.t.2, (good_VE _ _ _).mono CX.out.p.1.2 (fun b _ hm => .inl hm), HV.out.1, HV.out.2⟩
              · have hltb : decide (m.f0 < b.f0) = false := decide_eq_false hlt
                rw [hltb]
                have HTLe : euclid_toL b m q = [⟨b.f0, 1⟩, ⟨m.f0, q⟩] := by unfold euclid_toL; rw [if_neg hq0, if_neg hlt]
                have HQP2 := HQP
                rw [HTLe] at HQP2
                replace HQP := HQP2
                clear HQP2 HTLe
                clear hq0 hlt HVB
                by_cases hr3 : r3 = 0
                · have hrb : (r3 != 0) = false := by rw [hr3]; rfl
                  have H2m := Aside0.mk (show euclid_reduce.l2 k b rest r1 r2 r3 = some s by have h := H2n.out; rw [if_pos hr3] at h; exact h)
                  have HR3 := Aside0.mk hr3
                  clear hr3
                  go_wp2_with (first
                    | ((go_at_call 63); have hVt := CX.out.frees CX.out.t.2; replace CX := Aside0.mk (CX.out.shrink (T' := (TWk gW gV n Av cv (pv) (0) d_)) (P' := (PA (PA (PA (PV k44 44 (.slice Ae E.f1.length ce) E.f1) (VE n0 d_ us)) (PV k44 44 (.slice (some adl) F.f1.length cf) F.f1)) (PV k44 44 (.slice (some ⟨gT, 0, none⟩) 2 c2) [⟨b.f0, 1⟩, ⟨m.f0, q⟩]))) CX.out.t.1 (tTA (tTB HM.out.2.1) (tTI (tTB HM.out.2.2.1))) (fun hp => ⟨hp, hVt⟩) (gPA (gPA (gPA gPV (good_VE _ _ _)) gPV) gPV)); clear hVt; refine (euclid_put.callsN k n0 n (Nx M (fun _ => False) [(g14, #[.int .i64 0, .slice (some ⟨gT, 0, none⟩) 2 c2], 41), (g9, #[.int .i64 m.f0, .int .i64 m.f1], 44), (g5, #[.int .i64 b.f0, .int .i64 b.f1], 44), (g4, #[.int .i64 0, .slice none 0 0], 41), (g3, #[.int .i64 E.f0, .slice Ae E.f1.length ce], 41)]) gW gV Av cv pv 0 d_ us E.f0 Ae ce E.f1 b.f0 0 (some ⟨gT, 0, none⟩) c2 [⟨b.f0, 1⟩, ⟨m.f0, q⟩] ⟨r1.f0, r1.f1⟩ r2 r3 w13 CX.out.lt (.inl HM.out.2.1) (.inl HM.out.2.2.1) HM.out.2.2.2.1 HA.out HM.out.2.2.2.2.1 (Nat.le_trans HM.out.2.2.2.2.2 CX.out.fs.size) HV.out.2 CX.out.t.1 CX.out.t.2 CX.out.p.1.1.2 HV.out.1 CX.out.p.1.1.1 CX.out.p.2 HQP.out).mono ?_; rintro e w14 ⟨v, rfl, hr, hf, hw, dn, hv, hve, hvd, hle⟩; have HF := Aside0.mk (CX.out.fresh (hf.size) hr); replace CX := Aside0.mk (CX.out.turn hf (fun b e => e.elim (fun e => by subst e; exact HM.out.2.1) (fun e => by have e := e.2; subst e; exact HM.out.2.2.1)) (fun _ h _ => h) (T' := (TWk gW gV n Av cv (pv) (r3) dn)) ⟨hw, hv⟩ (tTA (tTB HM.out.2.1) (tTI (tTB HM.out.2.2.1)))); obtain ⟨Ar, cr, er_⟩ := Kd.R_slice HF.out; subst er_; replace CX := Aside0.mk (CX.out.withP (P' := (PA (PA (PV k44 44 (.slice Ar r1.f1.length cr) r1.f1) (VE n0 dn r2)) (PV k44 44 (.slice (some adl) F.f1.length cf) F.f1))) ⟨⟨Kd.R_V HF.out, hve⟩, CX.out.p.1.2⟩ (gPA (gPA gPV (good_VE _ _ _)) gPV)); replace HV := Aside0.mk (And.intro hvd hle); clear hr hf hw hv hve hvd hle HF; clear hc_g14_0 hc_g14_1 hc_g9_0 hc_g9_1 hc_g5_0 hc_g5_1 hc_g3_0 hc_g3_1)
                    | ((with_reducible refine gate_store (t := 41) (p := 3) rfl ?_); refine storeW CX (Cx.wh4n2) (st41 (CX.out.blk 4 rfl)) ?_; clear CX; intro w15 CX; have hc_g3_0 := ze0 (CX.out.blk 4 rfl); have hc_g3_1 := ze1 (CX.out.blk 4 rfl); have hx_e : w15.cell? ⟨gW, 2, none⟩ = some (.int .i64 (r3)) := (blk_cell CX.out.t.1 2).trans rfl))
                  go_roundg gki
                  case measure => omega
                  case rel =>
                    refine ⟨_, zs ++ [m], rest, ⟨r1.f0, r1.f1⟩, r2, r3, dn, Ar, cr, rfl, ⟨?_, ?_, ?_⟩, ⟨H2m.out, HR3.out⟩, HV, ⟨CX.out.drop 2⟩⟩
                    · have h1 := HI.out.1; have h2 := HLL.out; have h3 := HL.out.1; rw [List.length_cons] at h2; rw [List.length_append, List.length_singleton]; unfold wrap64; omega
                    · have h1 := HI.out.2.1; rw [List.length_cons] at h1; omega
                    · rw [List.append_assoc]; exact HI.out.2.2
                · have hrb : (r3 != 0) = true := bne_iff_ne.mpr hr3
                  have hO := HO.out
                  have h2 := H2n.out
                  rw [if_neg hr3] at h2
                  simp only [Option.some.injEq] at h2
                  rw [← h2, if_pos rfl] at hO
                  simp only [Option.some.injEq, Prod.mk.injEq] at hO
                  obtain ⟨rfl, rfl, rfl⟩ := hO
                  clear h2 HO H2n hr3
                  go_wp2_with (first
                    | ((go_at_call 63); have hVt := CX.out.frees CX.out.t.2; replace CX := Aside0.mk (CX.out.shrink (T' := (TWk gW gV n Av cv (pv) (0) d_)) (P' := (PA (PA (PA (PV k44 44 (.slice Ae E.f1.length ce) E.f1) (VE n0 d_ us)) (PV k44 44 (.slice (some adl) F.f1.length cf) F.f1)) (PV k44 44 (.slice (some ⟨gT, 0, none⟩) 2 c2) [⟨b.f0, 1⟩, ⟨m.f0, q⟩]))) CX.out.t.1 (tTA (tTB HM.out.2.1) (tTI (tTB HM.out.2.2.1))) (fun hp => ⟨hp, hVt⟩) (gPA (gPA (gPA gPV (good_VE _ _ _)) gPV) gPV)); clear hVt; refine (euclid_put.callsN k n0 n (Nx M (fun _ => False) [(g14, #[.int .i64 0, .slice (some ⟨gT, 0, none⟩) 2 c2], 41), (g9, #[.int .i64 m.f0, .int .i64 m.f1], 44), (g5, #[.int .i64 b.f0, .int .i64 b.f1], 44), (g4, #[.int .i64 0, .slice none 0 0], 41), (g3, #[.int .i64 E.f0, .slice Ae E.f1.length ce], 41)]) gW gV Av cv pv 0 d_ us E.f0 Ae ce E.f1 b.f0 0 (some ⟨gT, 0, none⟩) c2 [⟨b.f0, 1⟩, ⟨m.f0, q⟩] ⟨r1.f0, r1.f1⟩ r2 r3 w13 CX.out.lt (.inl HM.out.2.1) (.inl HM.out.2.2.1) HM.out.2.2.2.1 HA.out HM.out.2.2.2.2.1 (Nat.le_trans HM.out.2.2.2.2.2 CX.out.fs.size) HV.out.2 CX.out.t.1 CX.out.t.2 CX.out.p.1.1.2 HV.out.1 CX.out.p.1.1.1 CX.out.p.2 HQP.out).mono ?_; rintro e w14 ⟨v, rfl, hr, hf, hw, dn, hv, hve, hvd, hle⟩; have HF := Aside0.mk (CX.out.fresh (hf.size) hr); replace CX := Aside0.mk (CX.out.turn hf (fun b e => e.elim (fun e => by subst e; exact HM.out.2.1) (fun e => by have e := e.2; subst e; exact HM.out.2.2.1)) (fun _ h _ => h) (T' := (TWk gW gV n Av cv (pv) (r3) dn)) ⟨hw, hv⟩ (tTA (tTB HM.out.2.1) (tTI (tTB HM.out.2.2.1)))); obtain ⟨Ar, cr, er_⟩ := Kd.R_slice HF.out; subst er_; replace CX := Aside0.mk (CX.out.withP (P' := (PA (PA (PV k44 44 (.slice Ar r1.f1.length cr) r1.f1) (VE n0 dn r2)) (PV k44 44 (.slice (some adl) F.f1.length cf) F.f1))) ⟨⟨Kd.R_V HF.out, hve⟩, CX.out.p.1.2⟩ (gPA (gPA gPV (good_VE _ _ _)) gPV)); replace HV := Aside0.mk (And.intro hvd hle); clear hr hf hw hv hve hvd hle HF; clear hc_g14_0 hc_g14_1 hc_g9_0 hc_g9_1 hc_g5_0 hc_g5_1 hc_g3_0 hc_g3_1)
                    | ((with_reducible refine gate_store (t := 41) (p := 3) rfl ?_); refine storeW CX (Cx.wh4n2) (st41 (CX.out.blk 4 rfl)) ?_; clear CX; intro w15 CX; have hc_g3_0 := ze0 (CX.out.blk 4 rfl); have hc_g3_1 := ze1 (CX.out.blk 4 rfl); have hx_e : w15.cell? ⟨gW, 2, none⟩ = some (.int .i64 (r3)) := (blk_cell CX.out.t.1 2).trans rfl)
                    | ((with_reducible refine gate_store (t := 41) (p := 4) rfl ?_); refine storeW CX (Cx.wh3n2) (st41 (CX.out.blk 3 rfl)) ?_; clear CX; intro w16 CX; clear hc_g3_0 hc_g3_1 hx_e))
                  refine bodyPost_ret (v := .agg #[.int .i64 r1.f0, .slice Ar r1.f1.length cr]) ?hres ?hdef ?_
                  case hdef => rfl
                  case hres => exact results_single rfl (Vals.cell g4 41 #[.int .i64 r1.f0, .slice Ar r1.f1.length cr] (0, 0) _ rfl (CX.out.blk 3 rfl) Try.underlying41 rfl (by kernel_rfl) .nil)
                  refine ⟨_, rfl, Kd.V_mono CX.out.p.1.1 (fun b hb hm => hb (.inl hm)), CX.out.fs, CX.out.t.1, _, CX.out.t.2, (good_VE _ _ _).mono CX.out.p.1.2 (fun b _ hm => .inl hm), HV.out.1, HV.out.2⟩

end Go.Proofs.Ytjinmlpekecmbaa.PEuclidNone
