/- What a system's methods come to (euclid.run and what it calls), walked by hand: they answer as the plain functions of the same names do, wherever those answer; no condition but what stands in each theorem. Printed in part by programs of this session. -/
import Derived.Test.YtjinmlpekecmbaaEu0
namespace Go.Proofs.Ytjinmlpekecmbaa.PEuclidNone
open Go.RowKit Go.Proofs.YtjinmlpekecmbaaW.PrintWords Go.Proofs.YtjinmlpekecmbaaW.PrintLast Go.Proofs.YtjinmlpekecmbaaW.PrintMore
open Go.Proofs.YtjinmlpekecmbaaW.PrintWords renaming blk_drewN → zN, blk_drew → zD, blk_alloc → zA, below_alloc → yA, pw_below_drewN → yN, below_drew1 → yD, below_set → yS, gate_callee → zC
open Go.Proofs.YtjinmlpekecmbaaW.PrintWords.Aside0 renaming mk → zK
attribute [local go_sem] max2_int min2_int max_two min_two max_three min_three max_four min_four   -- for this text's walks alone
set_option linter.unusedVariables false
set_option linter.unusedSimpArgs false
/-! ### (*euclid.work).put -/
set_option maxHeartbeats 8000000 in
set_option maxRecDepth 100000 in
theorem euclid_put.calls (k : Nat) (n0 : Nat) (M : Nat → Prop) (gW gV : Nat) (Av : Option Addr) (cv : Nat) (pv : Value) (err : Int) (cs : Array Value) (xs : List S41) (f0 : Int) (A0 : Option Addr) (c0 : Nat) (f1 : List S44) (p t0 : Int) (At : Option Addr) (ct : Nat) (t1 : List S44) (r : S41) (ys : List S41) (er : Int) (w : World)
    (hM : ∀ b, M b → b < w.heap.size) (hMW : M gW) (hMV : M gV) (hne : 0 < xs.length → gV ≠ gW) (hAv : 0 < xs.length → Av = some ⟨gV, 0, none⟩) (hn : xs.length ≤ 64) (hn0 : n0 ≤ w.heap.size)
    (hW : w.heap[gW]? = some (.cells #[.slice Av xs.length cv, pv, .int .i64 err] 86 (0, 0))) (hV : 0 < xs.length → w.heap[gV]? = some (.cells cs 41 (0, 0))) (hve : VE n0 cs xs M w) (hvd : VD cs xs.length)
    (hl : Kd.V k44 44 w 0 (fun b => ¬ M b) (.slice A0 f1.length c0) f1) (hq : Kd.V k44 44 w 0 (fun b => ¬ M b) (.slice At t1.length ct) t1)
    (h : euclid_put.f k xs err f0 f1 p t0 t1 = some (r, ys, er)) :
    Calls Try.prog 63 #[.pointer (some ⟨gW, 0, none⟩), .agg #[.int .i64 f0, .slice A0 f1.length c0], .int .i64 p, .agg #[.int .i64 t0, .slice At t1.length ct]] w fun e w' => ∃ v, e = .returned (.agg #[.int .i64 r.f0, v]) ∧ Kd.R k44 44 w' w.heap.size (fun b => w.heap.size ≤ b) v r.f1 ∧ Fs (fun b => b = gW ∨ (0 < xs.length ∧ b = gV)) w w' ∧ w'.heap[gW]? = some (.cells #[.slice Av xs.length cv, pv, .int .i64 er] 86 (0, 0)) ∧ ∃ cs', (0 < xs.length → w'.heap[gV]? = some (.cells cs' 41 (0, 0))) ∧ VE n0 cs' ys M w' ∧ VD cs' xs.length ∧ ys.length = xs.length := by
  have hu41 := Try.underlying41
  have hu86 := Try.underlying86
  obtain ⟨⟨ys1, e1⟩, h1, h⟩ := Option.bind_eq_some_iff.1 h
  obtain ⟨⟨q1, q2, q3⟩, h2, h⟩ := Option.bind_eq_some_iff.1 h
  simp only [Option.some.injEq, Prod.mk.injEq] at h
  obtain ⟨rfl, rfl, he⟩ := h
  have HE := Aside0.mk he
  clear he
  have hlen := euclid_put.len _ _ _ _ _ _ _ _ h1
  have H1 := Aside0.mk h1
  have H2 := Aside0.mk h2
  have HL := Aside0.mk hlen
  have HM := Aside0.mk (And.intro hM (And.intro hMW (And.intro hMV (And.intro hne (And.intro hn hn0)))))
  have HA := Aside0.mk hAv
  have HVD := Aside0.mk hvd
  have CX := Aside0.mk (Cx.start (w := w) (S := (fun b => b = gW ∨ (0 < xs.length ∧ b = gV))) (M := M) (T := (fun _ W => W.heap[gW]? = some (.cells #[.slice Av xs.length cv, pv, .int .i64 err] 86 (0, 0)) ∧ (0 < xs.length → W.heap[gV]? = some (.cells cs 41 (0, 0)))))
    (P := (fun N W => (Kd.V k44 44 W 0 (fun b => ¬ N b) (.slice A0 f1.length c0) f1 ∧ Kd.V k44 44 W 0 (fun b => ¬ N b) (.slice At t1.length ct) t1) ∧ VE n0 cs xs N W))
    hM ⟨hW, hV⟩ (ts_and (ts_blk _ _ _ HM.out.2.1) (ts_imp (ts_blk _ _ _ HM.out.2.2.1))) ⟨⟨hl, hq⟩, hve⟩ (((good_V _ _ _ _ _).and (good_V _ _ _ _ _)).and (good_VE _ _ _)))
  clear h1 h2 hM hMW hMV hne hn hn0 hW hV hve hvd hl hq hAv hlen
  go_enter Try.func63, Try.ntmps63
  go_wp2_with (first
    | ((with_reducible refine gate_dst (N := 4) rfl ?_); refine boxA CX 83 #[.pointer (some ⟨gW, 0, none⟩)] ?_; clear CX; intro g4 w1 CX)
    | ((with_reducible refine gate_dst (N := 5) rfl ?_); refine boxA CX 41 #[.int .i64 f0, .slice A0 f1.length c0] ?_; clear CX; intro g5 w2 CX)
    | ((with_reducible refine gate_dst (N := 6) rfl ?_); refine boxA CX 3 #[.int .i64 p] ?_; clear CX; intro g6 w3 CX)
    | ((with_reducible refine gate_dst (N := 7) rfl ?_); refine boxA CX 41 #[.int .i64 t0, .slice At t1.length ct] ?_; clear CX; intro g7 w4 CX)
    | ((with_reducible refine gate_dst (N := 8) rfl ?_); refine boxA CX 41 #[.int .i64 0, .slice none 0 0] ?_; clear CX; intro g8 w5 CX; have hc_g4_0 := ze0 (CX.out.blk 4 rfl); have hx_v : w5.cell? ⟨gW, 0, none⟩ = some (.slice Av xs.length cv) := (blk_cell CX.out.t.1 0).trans rfl))
  clear hc_g4_0 hx_v
  go_loopg [17] xs.length (fun gk v17 w' => ∃ (x e_ : Int) (c_ : Array Value) (zs rest ys_ : List S41), v17 = .int .i64 x ∧ Aside0 (x = (zs.length : Int) ∧ gk = rest.length ∧ zs.length + rest.length = xs.length) ∧ Aside0 (euclid_put.l0 k p t0 t1 rest e_ = some (ys_, e1) ∧ zs ++ ys_ = ys1) ∧ Aside0 (VD c_ xs.length) ∧ Aside0 (Cx w (fun b => b = gW ∨ (0 < xs.length ∧ b = gV)) M (fun _ => False) (fun _ W => W.heap[gW]? = some (.cells #[.slice Av xs.length cv, pv, .int .i64 e_] 86 (0, 0)) ∧ (0 < xs.length → W.heap[gV]? = some (.cells c_ 41 (0, 0)))) (fun N W => (Kd.V k44 44 W 0 (fun b => ¬ N b) (.slice A0 f1.length c0) f1 ∧ Kd.V k44 44 W 0 (fun b => ¬ N b) (.slice At t1.length ct) t1) ∧ VE n0 c_ (zs ++ rest) N W) w' [(g8, #[.int .i64 0, .slice none 0 0], 41), (g7, #[.int .i64 t0, .slice At t1.length ct], 41), (g6, #[.int .i64 p], 3), (g5, #[.int .i64 f0, .slice A0 f1.length c0], 41), (g4, #[.pointer (some ⟨gW, 0, none⟩)], 83)]))
  case atStart => exact ⟨0, err, cs, [], xs, ys1, rfl, ⟨rfl, rfl, by simp⟩, ⟨H1.out, rfl⟩, HVD, CX⟩
  case round =>
    clear CX HVD H1
    obtain ⟨x, e_, c_, zs, rest, ys_, rfl, HI, HR, HVD, CX⟩ := hrel
    cases rest with
    | nil =>
      have c1 : decide (x < (xs.length : Int)) = false := decide_eq_false (by have := HI.out.1; have h2 := HI.out.2.2; rw [List.length_nil] at h2; omega)
      obtain ⟨hy1, hy2⟩ : ys_ = [] ∧ e_ = e1 := by
        have := HR.out.1
        simp only [euclid_put.l0, Option.some.injEq, Prod.mk.injEq] at this
        exact ⟨this.1.symm, this.2⟩
      subst hy1
      subst hy2
      have hz2 : zs = ys1 := by have := HR.out.2; rwa [List.append_nil] at this
      subst hz2
      have hc_g5_0 := ze0 (CX.out.blk 3 rfl)
      have hc_g5_1 := ze1 (CX.out.blk 3 rfl)
      go_wp2_with (first
        | ((go_at_call 74); refine (euclid_swap.calls k g6 g7 g4 gW f0 A0 c0 f1 p t0 At ct t1 (.slice Av xs.length cv) pv e_ q1 q2 q3 wr (CX.out.blk 2 rfl) (CX.out.blk 1 rfl) (CX.out.blk 4 rfl) (CX.out.ne 2 rfl HM.out.2.1) (CX.out.ne 1 rfl HM.out.2.1) (CX.out.ne 4 rfl HM.out.2.1) CX.out.t.1 (Kd.V_mono CX.out.p.1.1 (fun b hb e => hb (.inl (e ▸ HM.out.2.1)))) (Kd.V_mono CX.out.p.1.2 (fun b hb e => hb (.inl (e ▸ HM.out.2.1)))) H2.out).mono ?_; rintro e w6 ⟨v, rfl, hr, hs, hb⟩; have HF := Aside0.mk (CX.out.fresh hs.size hr); replace CX := Aside0.mk (CX.out.turn (T' := (fun _ W => W.heap[gW]? = some (.cells #[.slice Av xs.length cv, pv, .int .i64 (if q3 = 0 then e_ else q3)] 86 (0, 0)) ∧ (0 < xs.length → W.heap[gV]? = some (.cells c_ 41 (0, 0))))) hs (by rintro b rfl; exact HM.out.2.1) (by rintro b rfl _; exact .inl rfl) ⟨hb, fun h0 => (hs.block gV (blk_lt (CX.out.t.2 h0)) (HM.out.2.2.2.1 h0)).trans (CX.out.t.2 h0)⟩ (ts_and (ts_blk _ _ _ HM.out.2.1) (ts_imp (ts_blk _ _ _ HM.out.2.2.1)))); obtain ⟨Ar, cr, er⟩ := Kd.R_slice HF.out; subst er; replace CX := Aside0.mk (CX.out.withP (P' := fun N W => VE n0 c_ (zs ++ []) N W ∧ Kd.R k44 44 W w.heap.size (fun b => ¬ N b) (.slice Ar q2.length cr) q2) ⟨CX.out.p.2, HF.out⟩ ((good_VE _ _ _).and (good_R _ _ _ _ _))); clear hr hs hb HF; clear hc_g5_0 hc_g5_1)
        | ((with_reducible refine gate_store (t := 41) (p := 8) rfl ?_); refine storeW CX (Cx.wh0n2) (st41 (CX.out.blk 0 rfl)) ?_; clear CX; intro w7 CX))
      refine bodyPost_ret (v := .agg #[.int .i64 q1, .slice Ar q2.length cr]) ?hres ?hdef ?_
      case hdef => rfl
      case hres => exact results_single rfl (Vals.cell g8 41 #[.int .i64 q1, .slice Ar q2.length cr] (0, 0) _ rfl (CX.out.blk 0 rfl) Try.underlying41 rfl (by kernel_rfl) .nil)
      refine ⟨_, rfl, Kd.R_mono (Kd.R_bound CX.out.p.2) (fun _ hk => hk.2.1), CX.out.fs, ?_, c_, CX.out.t.2, ?_, HVD.out, HL.out⟩
      · rw [← HE.out]; exact CX.out.t.1
      have := (good_VE n0 c_ (zs ++ [])).mono (N' := M) CX.out.p.1 (fun b _ hm => .inl hm)
      rwa [List.append_nil] at this
    | cons y rest =>
      obtain ⟨gko, rfl⟩ : ∃ gko, gk = gko + 1 := ⟨gk - 1, by have := HI.out.2.1; rw [List.length_cons] at this; omega⟩
      have hpos : 0 < xs.length := by have h2 := HI.out.2.2; rw [List.length_cons] at h2; omega
      have hx0 : 0 ≤ x := by have := HI.out.1; omega
      have hx1 : x < (xs.length : Int) := by have := HI.out.1; have h2 := HI.out.2.2; rw [List.length_cons] at h2; omega
      have hxn : x.toNat = zs.length := by have := HI.out.1; omega
      have hA := HA.out hpos
      subst hA
      obtain ⟨⟨q1', q2', q3'⟩, hq1, hq⟩ := Option.bind_eq_some_iff.1 (show ((lin_Put.f k y.f0 y.f1 p t0 t1).bind fun r => (euclid_put.l0 k p t0 t1 rest (if r.2.2 = 0 then e_ else r.2.2)).bind fun s => some (⟨r.1, r.2.1⟩ :: s.1, s.2)) = some (ys_, e1) from HR.out.1)
      obtain ⟨⟨zt, et⟩, hq2, hq⟩ := Option.bind_eq_some_iff.1 hq
      simp only [Option.some.injEq, Prod.mk.injEq] at hq
      obtain ⟨rfl, rfl⟩ := hq
      have HQ1 := Aside0.mk hq1
      have HQ2 := Aside0.mk hq2
      clear hq1 hq2
      have hil : zs.length < (zs ++ y :: rest).length := by simp
      have hget : (zs ++ y :: rest)[zs.length] = y := by simp
      obtain ⟨s, hs0, hs1, hs2⟩ := CX.out.p.2 zs.length hil
      rw [hget] at hs0 hs2
      obtain ⟨As, cs_, es⟩ := Kd.R_slice hs2
      subst es
      have HS := Aside0.mk hs2
      have HS0 := Aside0.mk (And.intro hs0 hs1)
      clear hs2 hs0 hs1 hget
      have c1 : decide (x < (xs.length : Int)) = true := decide_eq_true hx1
      have hp2 := eq_true hx0
      have hq2 := eq_true hx1
      have HP := Aside0.mk (And.intro hpos (And.intro hx0 (And.intro hx1 hxn)))
      clear hx0 hx1 hpos hxn
      have hc_g4_0 := ze0 (CX.out.blk 4 rfl)
      have hv0 : wr.cell? ⟨gV, x.toNat * 2, none⟩ = some (.int .i64 y.f0) := (by rw [HP.out.2.2.2]; exact (blk_cell (CX.out.t.2 HP.out.1) _).trans HS0.out.1)
      have hv1 : wr.cell? ⟨gV, x.toNat * 2 + 1, none⟩ = some (.slice As y.f1.length cs_) := (by rw [HP.out.2.2.2]; exact (blk_cell (CX.out.t.2 HP.out.1) _).trans HS0.out.2)
      have hw0 : wr.cell? ⟨gW, 0, none⟩ = some (.slice (some ⟨gV, 0, none⟩) xs.length cv) := (blk_cell CX.out.t.1 0).trans rfl
      go_wp2
      replace CX := Aside0.mk CX.out.drew1
      have NG4 := Aside0.mk (CX.out.ne 4 rfl HM.out.2.2.1)
      have NGW := Aside0.mk (Ne.symm (HM.out.2.2.2.1 HP.out.1))
      have CS := Aside0.mk (euclid_swap.calls k g6 g7 g4 gW y.f0 As cs_ y.f1 p t0 At ct t1 (.slice (some ⟨gV, 0, none⟩) xs.length cv) pv e_ q1' q2' q3' wr.drew (CX.out.blk 2 rfl) (CX.out.blk 1 rfl) (CX.out.blk 4 rfl) (CX.out.ne 2 rfl HM.out.2.1) (CX.out.ne 1 rfl HM.out.2.1) (CX.out.ne 4 rfl HM.out.2.1) CX.out.t.1 (Kd.V_mono (Kd.R_V HS.out) (fun b hb e => hb (.inl (e ▸ HM.out.2.1)))) (Kd.V_mono CX.out.p.1.2 (fun b hb e => hb (.inl (e ▸ HM.out.2.1)))) HQ1.out)
      go_region_with ((go_at_call 74); refine (CS.out).mono ?_; rintro e w6 ⟨v, rfl, hr, hs, hb⟩; have HF := Aside0.mk (CX.out.fresh hs.size hr); have HFB := Aside0.mk (fun b hb => ((Kd.R_bound hr).1 b hb).1); have HSZ := Aside0.mk (CX.out.fs.size); have CX2 := Aside0.mk (CX.out.turn (T' := (fun _ W => W.heap[gW]? = some (.cells #[.slice (some ⟨gV, 0, none⟩) xs.length cv, pv, .int .i64 (if q3' = 0 then e_ else q3')] 86 (0, 0)) ∧ (0 < xs.length → W.heap[gV]? = some (.cells c_ 41 (0, 0))))) hs (by rintro b rfl; exact HM.out.2.1) (by rintro b rfl _; exact .inl rfl) ⟨hb, fun h0 => (hs.block gV (blk_lt (CX.out.t.2 h0)) (HM.out.2.2.2.1 h0)).trans (CX.out.t.2 h0)⟩ (ts_and (ts_blk _ _ _ HM.out.2.1) (ts_imp (ts_blk _ _ _ HM.out.2.2.1)))); obtain ⟨Ar, cr, er_⟩ := Kd.R_slice HF.out; subst er_; clear hr hs hb; have hd_g4 : w6.cell? ⟨g4, 0, none⟩ = some (.pointer (some ⟨gW, 0, none⟩)) := CX2.out.cell 4 0 rfl rfl; have dhv0 : w6.cell? ⟨gV, x.toNat * 2, none⟩ = some (.int .i64 y.f0) := (by rw [HP.out.2.2.2]; exact (blk_cell (CX2.out.t.2 HP.out.1) _).trans HS0.out.1); have dhv1 : w6.cell? ⟨gV, x.toNat * 2 + 1, none⟩ = some (.slice As y.f1.length cs_) := (by rw [HP.out.2.2.2]; exact (blk_cell (CX2.out.t.2 HP.out.1) _).trans HS0.out.2); have dhw0 : w6.cell? ⟨gW, 0, none⟩ = some (.slice (some ⟨gV, 0, none⟩) xs.length cv) := (blk_cell CX2.out.t.1 0).trans rfl; have dfv0 : w6.frozen? ⟨gV, x.toNat * 2, none⟩ = false := blk_frozen (CX2.out.t.2 HP.out.1) _; have dfv1 : w6.frozen? ⟨gV, x.toNat * 2 + 1, none⟩ = false := blk_frozen (CX2.out.t.2 HP.out.1) _; clear hc_g4_0 hv0 hv1 hw0)
      all_goals
        go_wp2
        go_roundg gko
        case measure => omega
        case rel =>
          have hil2 : x.toNat < (zs ++ y :: rest).length := by rw [HP.out.2.2.2]; exact hil
          have hlen2 : (zs ++ y :: rest).length = xs.length := by rw [List.length_append]; exact HI.out.2.2
          have hlist : (zs ++ [⟨q1', q2'⟩]) ++ rest = (zs ++ y :: rest).set x.toNat ⟨q1', q2'⟩ := by rw [HP.out.2.2.2]; exact (set_mid zs y _ rest).symm
          have CX3 := (CX2.out.withP (P' := fun N W => (fun N W => (Kd.V k44 44 W 0 (fun b => ¬ N b) (.slice A0 f1.length c0) f1 ∧ Kd.V k44 44 W 0 (fun b => ¬ N b) (.slice At t1.length ct) t1) ∧ VE n0 c_ (zs ++ y :: rest) N W) N W ∧ Kd.R k44 44 W w.heap.size (fun b => ¬ N b) (.slice Ar q2'.length cr) q2') ⟨CX2.out.p, HF.out⟩ ((((good_V _ _ _ _ _).and (good_V _ _ _ _ _)).and (good_VE _ _ _)).and (good_R _ _ _ _ _))).turn (T' := (fun _ W => W.heap[gW]? = some (.cells #[.slice (some ⟨gV, 0, none⟩) xs.length cv, pv, .int .i64 (if q3' = 0 then e_ else q3')] 86 (0, 0)) ∧ (0 < xs.length → W.heap[gV]? = some (.cells ((c_.setIfInBounds (x.toNat * 2) (.int .i64 q1')).setIfInBounds (x.toNat * 2 + 1) (.slice Ar q2'.length cr)) 41 (0, 0))))) ((Fs.set _ gV (x.toNat * 2) (.int .i64 q1')).trans (Fs.set _ gV (x.toNat * 2 + 1) (.slice Ar q2'.length cr)) (S'' := fun b => b = gV) (fun _ h _ => h) (fun _ h _ => h)) (by rintro b rfl; exact HM.out.2.2.1) (by rintro b rfl _; exact .inr ⟨HP.out.1, rfl⟩) ⟨blk_far (blk_far CX2.out.t.1 (p := ⟨gV, _, none⟩) NGW.out _) (p := ⟨gV, _, none⟩) NGW.out _, fun _ => blk_put (blk_put (CX2.out.t.2 HP.out.1) (x.toNat * 2) _ rfl) (x.toNat * 2 + 1) _ rfl⟩ (ts_and (ts_blk _ _ _ HM.out.2.1) (ts_imp (ts_blk _ _ _ HM.out.2.2.1)))
          have CX4 := CX3.withP (P' := (fun N W => (Kd.V k44 44 W 0 (fun b => ¬ N b) (.slice A0 f1.length c0) f1 ∧ Kd.V k44 44 W 0 (fun b => ¬ N b) (.slice At t1.length ct) t1) ∧ VE n0 ((c_.setIfInBounds (x.toNat * 2) (.int .i64 q1')).setIfInBounds (x.toNat * 2 + 1) (.slice Ar q2'.length cr)) ((zs ++ [⟨q1', q2'⟩]) ++ rest) N W)) ⟨CX3.p.1.1, VE_put x.toNat hil2 ⟨q1', q2'⟩ _ CX3.p.1.2 (Kd.R_lower CX3.p.2 HM.out.2.2.2.2.2) hlist⟩ (((good_V _ _ _ _ _).and (good_V _ _ _ _ _)).and (good_VE _ _ _))
          refine ⟨_, _, _, zs ++ [⟨q1', q2'⟩], rest, zt, rfl, ⟨?_, ?_, ?_⟩, ⟨HQ2.out, ?_⟩, ⟨?_⟩, ⟨CX4⟩⟩
          · have := HI.out.1; have := HI.out.2.2; have := HM.out.2.2.2.2.1; rw [List.length_append, List.length_singleton]; unfold wrap64; rw [List.length_cons] at *; omega
          · have := HI.out.2.1; rw [List.length_cons] at this; omega
          · have := HI.out.2.2; rw [List.length_append, List.length_singleton]; rw [List.length_cons] at this; omega
          · rw [List.append_assoc]; exact HR.out.2
          · have hvd := VD_put x.toNat (.int .i64 q1') (.slice Ar q2'.length cr) CX.out.p.2 (Nat.le_refl _) HFB.out (by rw [hlen2]; exact HVD.out) hil2
            rw [hlen2] at hvd
            exact hvd
/-- The first of the least. -/
def euclid_reduce.l1 : List S44 → S44 → Option S44
  | [], b => some b
  | m :: l, b => (euclid_far.f m.f1).bind fun x => (euclid_far.f b.f1).bind fun y => euclid_reduce.l1 l (if x < y then m else b)
/-- What a parameter's place is taken by. -/
def euclid_toL (b m : S44) (n : Int) : List S44 := if n = 0 then [⟨b.f0, 1⟩] else if m.f0 < b.f0 then [⟨m.f0, n⟩, ⟨b.f0, 1⟩] else [⟨b.f0, 1⟩, ⟨m.f0, n⟩]
def euclid_reduce.l2 (k : Nat) (b : S44) : List S44 → S41 → List S41 → Int → Option (Bool × S41 × List S41 × Int)
  | [], f, xs, e => some (false, f, xs, e)
  | m :: l, f, xs, e => if m.f0 = b.f0 then euclid_reduce.l2 k b l f xs e else (num_Div.f m.f1 b.f1).bind fun d => (num_Neg.f d.1).bind fun n => if (d.2 && n.2) = true then (euclid_put.f k xs e f.f0 f.f1 b.f0 0 (euclid_toL b m n.1)).bind fun q => (if q.2.2 = 0 then euclid_reduce.l2 k b l q.1 q.2.1 q.2.2 else some (true, q.1, q.2.1, q.2.2)) else some (true, f, xs, 5)
def euclid_reduce.l0 (k : Nat) : Nat → S41 → List S41 → Int → Option (S41 × List S41 × Int)
  | 0, _, _, _ => none
  | g+1, f, xs, e => if e = 0 ∧ 1 < f.f1.length then (if f.f1.length ≤ 1000000 then (euclid_reduce.l1 f.f1 (rd_T44 f.f1 0)).bind fun b => (euclid_reduce.l2 k b f.f1 f xs e).bind fun s => (if s.1 = true then some s.2 else euclid_reduce.l0 k g s.2.1 s.2.2.1 s.2.2.2) else none) else some (f, xs, e)
/-- Parameters are changed till just one stands in an equation: the equation, the forms, the error. -/
def euclid_reduce.f (k : Nat) (xs : List S41) (err : Int) (f : S41) : Option (S41 × List S41 × Int) := euclid_reduce.l0 k k f xs err
theorem euclid_put.callsN (k : Nat) (n0 n : Nat) (M : Nat → Prop) (gW gV : Nat) (Av : Option Addr) (cv : Nat) (pv : Value) (err : Int) (cs : Array Value) (xs : List S41) (f0 : Int) (A0 : Option Addr) (c0 : Nat) (f1 : List S44) (p t0 : Int) (At : Option Addr) (ct : Nat) (t1 : List S44) (r : S41) (ys : List S41) (er : Int) (w : World)
    (hM : ∀ b, M b → b < w.heap.size) (hMW : M gW) (hMV : M gV) (hne : 0 < n → gV ≠ gW) (hAv : 0 < n → Av = some ⟨gV, 0, none⟩) (hn : n ≤ 64) (hn0 : n0 ≤ w.heap.size) (hnn : xs.length = n)
    (hW : w.heap[gW]? = some (.cells #[.slice Av n cv, pv, .int .i64 err] 86 (0, 0))) (hV : 0 < n → w.heap[gV]? = some (.cells cs 41 (0, 0))) (hve : VE n0 cs xs M w) (hvd : VD cs n)
    (hl : Kd.V k44 44 w 0 (fun b => ¬ M b) (.slice A0 f1.length c0) f1) (hq : Kd.V k44 44 w 0 (fun b => ¬ M b) (.slice At t1.length ct) t1)
    (h : euclid_put.f k xs err f0 f1 p t0 t1 = some (r, ys, er)) :
    Calls Try.prog 63 #[.pointer (some ⟨gW, 0, none⟩), .agg #[.int .i64 f0, .slice A0 f1.length c0], .int .i64 p, .agg #[.int .i64 t0, .slice At t1.length ct]] w fun e w' => ∃ v, e = .returned (.agg #[.int .i64 r.f0, v]) ∧ Kd.R k44 44 w' w.heap.size (fun b => w.heap.size ≤ b) v r.f1 ∧ Fs (fun b => b = gW ∨ (0 < n ∧ b = gV)) w w' ∧ w'.heap[gW]? = some (.cells #[.slice Av n cv, pv, .int .i64 er] 86 (0, 0)) ∧ ∃ cs', (0 < n → w'.heap[gV]? = some (.cells cs' 41 (0, 0))) ∧ VE n0 cs' ys M w' ∧ VD cs' n ∧ ys.length = n := by
  subst hnn
  exact euclid_put.calls k n0 M gW gV Av cv pv err cs xs f0 A0 c0 f1 p t0 At ct t1 r ys er w hM hMW hMV hne hAv hn hn0 hW hV hve hvd hl hq h
section
variable {w W W' : World} {S M RB : Nat → Prop} {T P : (Nat → Prop) → World → Prop} {L : List (Nat × Array Value × Nat)}
theorem Cx.freed (h : Cx w S M RB T P W L) : ∀ b, RB b → ¬ Nx M (fun _ => False) L b := by
  intro b hb hn
  rcases hn with hn | hn | ⟨x, hx, e⟩
  · exact h.mr b hn hb
  · exact hn
  · exact (h.lk x hx).2.2.2 (e ▸ hb)
/-- Rows that are written no more. -/
theorem Cx.shrink (h : Cx w S M RB T P W L) {T' P' : (Nat → Prop) → World → Prop} (ht : T' (fun _ => False) W) (hts : Ts M T') (hp : P (Nx M (fun _ => False) L) W → P' (Nx M (fun _ => False) L) W) (gd : Good P') : Cx w S M (fun _ => False) T' P' W L :=
  ⟨fun x hx => ⟨(h.lk x hx).1, (h.lk x hx).2.1, (h.lk x hx).2.2.1, fun e => e⟩, h.ld, fun b hb => hb.elim (fun hb => h.mb b (.inl hb)) (fun hb => hb.elim), fun b hb => hb.elim, fun _ _ e => e, ht, hts,
    hp (h.gd.mono h.p (fun b _ hn => by
      rcases hn with hn | hn | hn
      · exact .inl hn
      · exact hn.elim
      · exact .inr (.inr hn))), gd, h.fs⟩
/-- A row of one's own that is written no more, as a row that is read. -/
theorem Cx.frees {α : Type} {d : Kd α} {e : Nat} {v : Value} {xs : List α} (h : Cx w S M RB T P W L) (hr : Kd.R d e W w.heap.size RB v xs) : Kd.V d e W 0 (fun b => ¬ Nx M (fun _ => False) L b) v xs :=
  Kd.R_V (Kd.R_mono hr (fun b hb => h.freed b hb))
end
/-! ### two forms of a row of one's own are turned -/
theorem R44_cells {W : World} {base g cap : Nat} {ok : Nat → Prop} {x y : S44} (h : Kd.R k44 44 W base ok (.slice (some ⟨g, 0, none⟩) 2 cap) [x, y]) :
    (W.cell? ⟨g, 0, none⟩ = some (.int .i64 x.f0) ∧ W.cell? ⟨g, 1, none⟩ = some (.int .i64 x.f1) ∧ W.cell? ⟨g, 2, none⟩ = some (.int .i64 y.f0) ∧ W.cell? ⟨g, 3, none⟩ = some (.int .i64 y.f1)) ∧ ∀ j, W.frozen? ⟨g, j, none⟩ = false := by
  obtain ⟨c, _, hM, hc, hf⟩ := Kd.R_elem h x 0 (by decide) (by decide)
  obtain ⟨c2, _, hM2, hc2, _⟩ := Kd.R_elem h x 1 (by decide) (by decide)
  have e1 := k44_openM hM
  have e2 := k44_openM hM2
  subst e1
  subst e2
  refine ⟨⟨hc 0 _ rfl, hc 1 _ rfl, hc2 0 _ rfl, hc2 1 _ rfl⟩, fun j => ?_⟩
  obtain ⟨_, inner, ho, hr⟩ := h
  obtain ⟨cells, hb⟩ := own_typed ho g (by simp [Value.ownBlock])
  exact blk_frozen hb _
theorem R44_put {W : World} {base g cap : Nat} {ok : Nat → Prop} {x y : S44} (h : Kd.R k44 44 W base ok (.slice (some ⟨g, 0, none⟩) 2 cap) [x, y]) (i : Nat) (hi : i < 2) (z : S44) :
    Kd.R k44 44 ((W.setCell ⟨g, i * 2, none⟩ (.int .i64 z.f0)).setCell ⟨g, i * 2 + 1, none⟩ (.int .i64 z.f1)) base ok (.slice (some ⟨g, 0, none⟩) 2 cap) ([x, y].set i z) := by
  obtain ⟨c, hl, hM, hc, hf⟩ := Kd.R_elem h x (i : Int) (by omega) (by omega)
  have hs := (Kd.R_seg (seg := [.int .i64 z.f0, .int .i64 z.f1]) (j := 0) h (i : Int) (by omega) (by omega) hl hc (by show (2 : Nat) ≤ 2; exact Nat.le_refl 2) (x' := z) (okp := fun _ => False) (by
    have e : (List.take 0 c ++ [Value.int .i64 z.f0, Value.int .i64 z.f1] ++ List.drop (0 + 2) c) = [Value.int .i64 z.f0, .int .i64 z.f1] := by
      have h2 : c.length = 2 := hl
      simp [List.drop_eq_nil_of_le (Nat.le_of_eq h2)]
    have hx := k44_mkM W base (fun _ => False) z
    rw [← e] at hx
    exact hx) (fun _ h => h.elim)).1
  exact hs
theorem R44_fs {W : World} {base g cap : Nat} {ok : Nat → Prop} {x y : S44} (h : Kd.R k44 44 W base ok (.slice (some ⟨g, 0, none⟩) 2 cap) [x, y]) (i : Nat) (a b : Value) :
    Fs ok W ((W.setCell ⟨g, i, none⟩ a).setCell ⟨g, i + 1, none⟩ b) := by
  have hg : ok g := h.1 g (by simp [Value.ownBlock])
  exact ((Fs.set W g i a).trans (Fs.set _ g (i + 1) b) (S'' := fun b => b = g) (fun _ h _ => h) (fun _ h _ => h)).mono (fun b e _ => by subst e; exact hg)

end Go.Proofs.Ytjinmlpekecmbaa.PEuclidNone
