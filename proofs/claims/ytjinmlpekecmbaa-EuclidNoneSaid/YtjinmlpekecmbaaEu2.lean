/- What a system's methods come to (euclid.run and what it calls), walked by hand: they answer as the plain functions of the same names do, wherever those answer; no condition but what stands in each theorem. Printed in part by programs of this session. -/
import Derived.Test.YtjinmlpekecmbaaEu0
namespace Go.Proofs.Ytjinmlpekecmbaa.PEuclidNone
open Go.RowKit Go.Proofs.YtjinmlpekecmbaaW.PrintWords Go.Proofs.YtjinmlpekecmbaaW.PrintLast Go.Proofs.YtjinmlpekecmbaaW.PrintMore
open Go.Proofs.YtjinmlpekecmbaaW.PrintWords renaming blk_drewN → zN, blk_drew → zD, blk_alloc → zA, below_alloc → yA, pw_below_drewN → yN, below_drew1 → yD, below_set → yS, gate_callee → zC
open Go.Proofs.YtjinmlpekecmbaaW.PrintWords.Aside0 renaming mk → zK
attribute [local go_sem] max2_int min2_int max_two min_two max_three min_three max_four min_four   -- for this text's walks alone
set_option linter.unusedVariables false
set_option linter.unusedSimpArgs false
def euclid_over.T5 : Bool × List (List Nat × List Nat) := (true, [([], []), ([], []), ([1], [1]), ([2], [2]), ([3], [3]), ([], []), ([5], [5]), ([4, 6], [4, 6]), ([7], [7]), ([8], [8]), ([0, 9], [0, 9]), ([], []), ([], []), ([12], [12]), ([13], [13]), ([11, 14, 10], [11, 14]), ([10, 15, 0, 1, 2, 3, 4, 5, 6, 7, 8, 9, 10], [0, 10]), ([15, 16, 0, 1, 2, 3, 4, 5, 6, 7, 8, 9, 10, 11, 12, 13, 14, 15, 16], [11, 15])])
def euclid_over.B5 : List Nat := [0, 0, 2, 6, 14, 0, 32, 126, 254, 510, 1023, 0, 0, 4096, 12288, 32767, 65535, 131071]
theorem euclid_over.tab5 : rtab .any (opsOf Try.f41 5) = euclid_over.T5 := by kernel_rfl
theorem euclid_over.bits5 : waitsOk euclid_over.T5.2 euclid_over.B5 = true := by kernel_rfl
set_option maxHeartbeats 8000000 in
set_option maxRecDepth 100000 in
theorem euclid_over.calls (k : Nat) (n0 : Nat) (M : Nat → Prop) (gW gV : Nat) (Av : Option Addr) (cv : Nat) (pv : Value) (err : Int) (cs : Array Value) (xs : List S41) (K0 : Int) (A0 : Option Addr) (c0 : Nat) (l : List S44) (r : S41) (er : Int) (w : World)
    (hM : ∀ b, M b → b < w.heap.size) (hMW : M gW) (hMV : M gV) (hne : 0 < xs.length → gV ≠ gW) (hAv : 0 < xs.length → Av = some ⟨gV, 0, none⟩)
    (hW : w.heap[gW]? = some (.cells #[.slice Av xs.length cv, pv, .int .i64 err] 86 (0, 0))) (hV : 0 < xs.length → w.heap[gV]? = some (.cells cs 41 (0, 0))) (hve : VE n0 cs xs M w)
    (hl : Kd.V k44 44 w 0 (fun b => ¬ M b) (.slice A0 l.length c0) l)
    (h : euclid_over.f k xs err K0 l = some (r, er)) :
    Calls Try.prog 41 #[.pointer (some ⟨gW, 0, none⟩), .agg #[.int .i64 K0, .slice A0 l.length c0]] w fun e w' => ∃ v, e = .returned (.agg #[.int .i64 r.f0, v]) ∧ Kd.R k44 44 w' w.heap.size (fun b => w.heap.size ≤ b) v r.f1 ∧ Fs (fun b => b = gW) w w' ∧ w'.heap[gW]? = some (.cells #[.slice Av xs.length cv, pv, .int .i64 er] 86 (0, 0)) := by
  have hu41 := Try.underlying41
  have hu44 := Try.underlying44
  have hu86 := Try.underlying86
  have hlen : l.length ≤ 1000000 := by
    rcases Nat.lt_or_ge 1000000 l.length with h1 | h1
    · rw [euclid_over.f, if_neg (by omega)] at h; cases h
    · exact h1
  rw [euclid_over.f, if_pos hlen] at h
  obtain ⟨⟨F, B⟩, h1, h⟩ := Option.bind_eq_some_iff.1 h
  obtain ⟨⟨q1, q2, q3⟩, h2, h⟩ := Option.bind_eq_some_iff.1 h
  simp only [Option.some.injEq, Prod.mk.injEq] at h
  obtain ⟨rfl, he⟩ := h
  have HE := Aside0.mk he
  have H1 := Aside0.mk h1
  have H2 := Aside0.mk h2
  have HM := Aside0.mk (And.intro hM (And.intro hMW (And.intro hMV hne)))
  have HL := Aside0.mk hlen
  have HA := Aside0.mk hAv
  have CX := Aside0.mk (Cx.start (w := w) (S := (fun b => b = gW)) (M := M) (T := (fun _ W => W.heap[gW]? = some (.cells #[.slice Av xs.length cv, pv, .int .i64 err] 86 (0, 0)) ∧ (0 < xs.length → W.heap[gV]? = some (.cells cs 41 (0, 0)))))
    (P := (fun N W => (Kd.V k44 44 W 0 (fun b => ¬ N b) (.slice A0 l.length c0) l ∧ VE n0 cs xs N W)))
    hM ⟨hW, hV⟩ (ts_and (ts_blk _ _ _ HM.out.2.1) (ts_imp (ts_blk _ _ _ HM.out.2.2.1))) ⟨hl, hve⟩ ((good_V _ _ _ _ _).and (good_VE _ _ _)))
  clear h1 h2 he hM hMW hMV hne hW hV hve hl hAv hlen
  go_enter Try.func41, Try.ntmps41
  go_wp2_with (first
    | ((with_reducible refine gate_dst (N := 3) rfl ?_); refine boxA CX 41 #[.int .i64 K0, .slice A0 l.length c0] ?_; clear CX; intro g3 w1 CX)
    | ((with_reducible refine gate_dst (N := 4) rfl ?_); refine boxA CX 41 #[.int .i64 0, .slice none 0 0] ?_; clear CX; intro g4 w2 CX; have hc_g3_0 := ze0 (CX.out.blk 1 rfl); have hc_g3_1 := ze1 (CX.out.blk 1 rfl))
    | ((with_reducible refine gate_dst (N := 14) rfl ?_); refine Kd.R_lit (w0 := w2) kraw _ 41 ?hg (N := 14) ?hd (xs := ([(K0, .slice none 0 0)] : List (Int × Value))) (inner := [.int .i64 K0, .slice none 0 0]) (ok := fun _ => True) (okp := fun _ => True) ?hr ?hp (fun _ hk => hk) trivial (Below.refl _ _) (Nat.le_refl _) (by simp) ?_; (case hd => rfl); (case hg => rfl); (case hr => first | (go_simp; done) | (go_simp; rfl)); (case hp => exact (Reps.c2 (show Kd.M kraw _ _ _ (K0, .slice none 0 0) [.int .i64 (K0), .slice none 0 0] from ⟨rfl, rfl⟩) (Reps.none _ _))); intro vf w3 ho hb hg_ hnew_; obtain ⟨RB, CX2⟩ := CX.out.rows' (T' := (fun RB W => ((fun _ W => W.heap[gW]? = some (.cells #[.slice Av xs.length cv, pv, .int .i64 err] 86 (0, 0)) ∧ (0 < xs.length → W.heap[gV]? = some (.cells cs 41 (0, 0))))) RB W ∧ Kd.R kraw 41 W w.heap.size RB vf [(K0, .slice none 0 0)])) (Fs.of_below hb) (fun RB' r1 r2 => ⟨⟨blk_below CX.out.t.1 hb, fun h0 => blk_below (CX.out.t.2 h0) hb⟩, Kd.R_lower (Kd.R_mono (Kd.R_bound ho) (fun k hk => r2 k hk.2.1 hk.2.2.1)) CX.out.fs.size⟩) (ts_and (ts_and (ts_blk _ _ _ HM.out.2.1) (ts_imp (ts_blk _ _ _ HM.out.2.2.1))) (ts_R _ _ _ _ _ _)); replace CX := Aside0.mk CX2; clear CX2 ho hb hg_ hnew_)
    | ((with_reducible refine gate_dst (N := 15) rfl ?_); refine Kd.R_lit (w0 := w3) (Kd.int .i64) _ 2 ?hg (N := 15) ?hd (xs := ([1] : List Int)) (inner := [.int .i64 1]) (ok := fun _ => True) (okp := fun _ => True) ?hr ?hp (fun _ hk => hk) trivial (Below.refl _ _) (Nat.le_refl _) (by simp) ?_; (case hd => rfl); (case hg => rfl); (case hr => first | (go_simp; done) | (go_simp; rfl)); (case hp => exact (Reps.one (show Kd.M (Kd.int .i64) _ _ _ (1 : Int) [.int .i64 1] from rfl) (Reps.none _ _))); intro vb w4 ho hb hg_ hnew_; obtain ⟨RB1, CX2⟩ := CX.out.rows' (T' := (fun RB W => (W.heap[gW]? = some (.cells #[.slice Av xs.length cv, pv, .int .i64 err] 86 (0, 0)) ∧ (0 < xs.length → W.heap[gV]? = some (.cells cs 41 (0, 0)))) ∧ Kd.R kraw 41 W w.heap.size RB vf [(K0, .slice none 0 0)] ∧ Kd.R (Kd.int .i64) 2 W w.heap.size RB vb [1])) (Fs.of_below hb) (fun RB' r1 r2 => ⟨⟨blk_below CX.out.t.1.1 hb, fun h0 => blk_below (CX.out.t.1.2 h0) hb⟩, Kd.R_mono (Kd.R_below CX.out.t.2 hb) r1, Kd.R_lower (Kd.R_mono (Kd.R_bound ho) (fun k hk => r2 k hk.2.1 hk.2.2.1)) CX.out.fs.size⟩) (ts_and (ts_and (ts_blk _ _ _ HM.out.2.1) (ts_imp (ts_blk _ _ _ HM.out.2.2.1))) (ts_and (ts_R _ _ _ _ _ _) (ts_R _ _ _ _ _ _))); replace CX := Aside0.mk CX2; clear CX2 ho hb hg_ hnew_; clear hc_g3_0 hc_g3_1; have hc_g3_0 := ze0 (CX.out.blk 1 rfl); have hc_g3_1 := ze1 (CX.out.blk 1 rfl)))
  clear hc_g3_0 hc_g3_1
  replace CX := Aside0.mk (CX.out.withP (P' := (fun N W => (Kd.V k44 44 W 0 (fun b => ¬ N b) (.slice A0 l.length c0) l ∧ VE n0 cs xs N W) ∧ FV [(K0, .slice none 0 0)] [⟨K0, []⟩] N W)) ⟨CX.out.p, by rfl, fun i hi => by
    have : i = 0 := by simp at hi; exact hi
    subst this
    exact ⟨.slice none 0 0, rfl, Kd.V_nil _ _ _ _ _⟩⟩ (((good_V _ _ _ _ _).and (good_VE _ _ _)).and (good_FV _ _)))
  obtain ⟨Af, cf, ef⟩ := Kd.R_slice CX.out.t.2.1
  obtain ⟨Ab, cb, eb⟩ := Kd.R_slice CX.out.t.2.2
  subst ef
  subst eb
  go_loopg [19, 5, 6] l.length (fun gk v19 v5 v6 w' => ∃ (x : Int) (zs rest : List S44) (fl : List (Int × Value)) (fS : List S41) (bl : List Int) (Af Ab : Option Addr) (cf cb : Nat) (RB : Nat → Prop), v19 = .int .i64 x ∧ v5 = .slice Af fl.length cf ∧ v6 = .slice Ab bl.length cb ∧ Aside0 (x = (zs.length : Int) ∧ gk = rest.length ∧ zs ++ rest = l) ∧ Aside0 (euclid_over.l0 xs rest fS bl = some (F, B)) ∧ Aside0 (fl.length = zs.length + 1 ∧ bl.length = zs.length + 1) ∧ Aside0 (Cx w (fun b => b = gW) M RB (fun RB W => (W.heap[gW]? = some (.cells #[.slice Av xs.length cv, pv, .int .i64 err] 86 (0, 0)) ∧ (0 < xs.length → W.heap[gV]? = some (.cells cs 41 (0, 0)))) ∧ Kd.R kraw 41 W w.heap.size RB (.slice Af fl.length cf) fl ∧ Kd.R (Kd.int .i64) 2 W w.heap.size RB (.slice Ab bl.length cb) bl) (fun N W => (Kd.V k44 44 W 0 (fun b => ¬ N b) (.slice A0 l.length c0) l ∧ VE n0 cs xs N W) ∧ FV fl fS N W) w' [(g4, #[.int .i64 0, .slice none 0 0], 41), (g3, #[.int .i64 K0, .slice A0 l.length c0], 41)]))
  case atStart => exact ⟨0, [], l, [(K0, .slice none 0 0)], [⟨K0, []⟩], [1], Af, Ab, cf, cb, RB1, rfl, rfl, rfl, ⟨rfl, rfl, rfl⟩, H1, ⟨rfl, rfl⟩, CX⟩
  case round =>
    clear CX H1
    obtain ⟨x, zs, rest, fl, fS, bl, Af, Ab, cf, cb, RB, rfl, rfl, rfl, HI, HR, HLn, CX⟩ := hrel
    have hll : zs.length + rest.length = l.length := by rw [← List.length_append, HI.out.2.2]
    have HLL := Aside0.mk hll
    clear hll
    cases rest with
    | nil =>
      have c1 : decide (x < (l.length : Int)) = false := decide_eq_false (by have := HI.out.1; have h2 := HLL.out; rw [List.length_nil] at h2; omega)
      obtain ⟨hF, hB⟩ : fS = F ∧ bl = B := by
        have := HR.out
        simp only [euclid_over.l0, Option.some.injEq, Prod.mk.injEq] at this
        exact this
      subst hF
      subst hB
      have HVV := Aside0.mk (V41_of (b0 := wr.heap.size) CX.out.t.2.1 CX.out.p.2)
      have efl := CX.out.p.2.1
      rw [efl] at HVV
      by_cases hz : q3 = 0
      · have hz1 : (q3 != 0) = false := by rw [hz]; rfl
        rw [if_pos hz] at HE
        go_wp2_with (first
          | ((go_at_call 25); refine (lin_Sum.calls k _ Af cf fS Ab cb bl q1 q2 q3 wr HVV.out (Kd.R_reads' CX.out.t.2.2).2.2 (Kd.R_reads' CX.out.t.2.2).2.1 H2.out).mono ?_; rintro e w5 ⟨v, rfl, hr, hb⟩; have HF := Aside0.mk (CX.out.fresh hb.size hr); replace CX := Aside0.mk (CX.out.call hb); obtain ⟨Ar, cr, er_⟩ := Kd.R_slice HF.out; subst er_; replace CX := Aside0.mk ((CX.out.withP (P' := fun N W => Kd.R k44 44 W w.heap.size (fun b => ¬ N b) (.slice Ar q2.length cr) q2) HF.out (good_R _ _ _ _ _)).withT (T' := (fun _ W => W.heap[gW]? = some (.cells #[.slice Av xs.length cv, pv, .int .i64 err] 86 (0, 0)) ∧ (0 < xs.length → W.heap[gV]? = some (.cells cs 41 (0, 0))))) CX.out.t.1 (ts_and (ts_blk _ _ _ HM.out.2.1) (ts_imp (ts_blk _ _ _ HM.out.2.2.1)))); clear hr hb HF)
          | ((with_reducible refine gate_dst (N := 9) rfl ?_); refine boxA CX 41 #[.int .i64 0, .slice none 0 0] ?_; clear CX; intro g9 w6 CX)
          | ((with_reducible refine gate_store (t := 41) (p := 9) rfl ?_); refine storeW CX (Cx.wh0n2) (st41 (CX.out.blk 0 rfl)) ?_; clear CX; intro w7 CX; have hc_g9_0 := ze0 (CX.out.blk 0 rfl); have hc_g9_1 := ze1 (CX.out.blk 0 rfl))
          | ((with_reducible refine gate_store (t := 41) (p := 4) rfl ?_); refine storeW CX (Cx.wh1n2) (st41 (CX.out.blk 1 rfl)) ?_; clear CX; intro w8 CX; clear hc_g9_0 hc_g9_1))
        refine bodyPost_ret (v := .agg #[.int .i64 q1, .slice Ar q2.length cr]) ?hres ?hdef ?_
        case hdef => rfl
        case hres => exact results_single rfl (Vals.cell g4 41 #[.int .i64 q1, .slice Ar q2.length cr] (0, 0) _ rfl (CX.out.blk 1 rfl) Try.underlying41 rfl (by kernel_rfl) .nil)
        refine ⟨_, rfl, Kd.R_mono (Kd.R_bound CX.out.p) (fun _ hk => hk.2.1), CX.out.fs, ?_⟩
        rw [← HE.out]
        exact CX.out.t.1
      · have hz1 : (q3 != 0) = true := bne_iff_ne.mpr hz
        rw [if_neg hz] at HE
        go_wp2_with (first
          | ((go_at_call 25); refine (lin_Sum.calls k _ Af cf fS Ab cb bl q1 q2 q3 wr HVV.out (Kd.R_reads' CX.out.t.2.2).2.2 (Kd.R_reads' CX.out.t.2.2).2.1 H2.out).mono ?_; rintro e w5 ⟨v, rfl, hr, hb⟩; have HF := Aside0.mk (CX.out.fresh hb.size hr); replace CX := Aside0.mk (CX.out.call hb); obtain ⟨Ar, cr, er_⟩ := Kd.R_slice HF.out; subst er_; replace CX := Aside0.mk ((CX.out.withP (P' := fun N W => Kd.R k44 44 W w.heap.size (fun b => ¬ N b) (.slice Ar q2.length cr) q2) HF.out (good_R _ _ _ _ _)).withT (T' := (fun _ W => W.heap[gW]? = some (.cells #[.slice Av xs.length cv, pv, .int .i64 err] 86 (0, 0)) ∧ (0 < xs.length → W.heap[gV]? = some (.cells cs 41 (0, 0))))) CX.out.t.1 (ts_and (ts_blk _ _ _ HM.out.2.1) (ts_imp (ts_blk _ _ _ HM.out.2.2.1)))); clear hr hb HF)
          | ((with_reducible refine gate_dst (N := 9) rfl ?_); refine boxA CX 41 #[.int .i64 0, .slice none 0 0] ?_; clear CX; intro g9 w6 CX)
          | ((with_reducible refine gate_store (t := 41) (p := 9) rfl ?_); refine storeW CX (Cx.wh0n2) (st41 (CX.out.blk 0 rfl)) ?_; clear CX; intro w7 CX; have hc_g9_0 := ze0 (CX.out.blk 0 rfl); have hc_g9_1 := ze1 (CX.out.blk 0 rfl))
          | ((with_reducible refine gate_store (t := 26) (p := 51) rfl ?_); have hq_0 : w7.cell? ⟨gW, 2, none⟩ = some (.int .i64 (err)) := (blk_cell CX.out.t.1 2).trans rfl; have hz_0 : w7.frozen? ⟨gW, 2, none⟩ = false := blk_frozen CX.out.t.1 2; refine store_event (t := 26) (p := 51) (v := ?vo_1) (w1 := (w7.setCell ⟨gW, 2, none⟩ (.int .i64 (q3)))) ?hg ?ho ?hn ?hr ?_; (case ho => rfl); (case hg => rfl); (case hn => rfl); (case hr => first | (go_simp; done) | (go_simp; rfl)); intro w8 hw; replace CX := Aside0.mk (CX.out.turn (Fs.set _ gW 2 (.int .i64 q3)) (fun b e => by subst e; exact HM.out.2.1) (fun _ h _ => h) (T' := (fun _ W => W.heap[gW]? = some (.cells #[.slice Av xs.length cv, pv, .int .i64 q3] 86 (0, 0)) ∧ (0 < xs.length → W.heap[gV]? = some (.cells cs 41 (0, 0))))) ⟨blk_put CX.out.t.1 2 _ rfl, fun h0 => blk_far (CX.out.t.2 h0) (p := ⟨gW, 2, none⟩) (HM.out.2.2.2 h0) _⟩ (ts_and (ts_blk _ _ _ HM.out.2.1) (ts_imp (ts_blk _ _ _ HM.out.2.2.1)))); rw [← hw] at CX; clear hw hq_0 hz_0; clear hc_g9_0 hc_g9_1; have hc_g9_0 := ze0 (CX.out.blk 0 rfl); have hc_g9_1 := ze1 (CX.out.blk 0 rfl))
          | ((with_reducible refine gate_store (t := 41) (p := 4) rfl ?_); refine storeW CX (Cx.wh1n2) (st41 (CX.out.blk 1 rfl)) ?_; clear CX; intro w9 CX; clear hc_g9_0 hc_g9_1))
        refine bodyPost_ret (v := .agg #[.int .i64 q1, .slice Ar q2.length cr]) ?hres ?hdef ?_
        case hdef => rfl
        case hres => exact results_single rfl (Vals.cell g4 41 #[.int .i64 q1, .slice Ar q2.length cr] (0, 0) _ rfl (CX.out.blk 1 rfl) Try.underlying41 rfl (by kernel_rfl) .nil)
        refine ⟨_, rfl, Kd.R_mono (Kd.R_bound CX.out.p) (fun _ hk => hk.2.1), CX.out.fs, ?_⟩
        rw [← HE.out]
        exact CX.out.t.1
    | cons m rest =>
      obtain ⟨gko, rfl⟩ : ∃ gko, gk = gko + 1 := ⟨gk - 1, by have := HI.out.2.1; rw [List.length_cons] at this; omega⟩
      have hR := HR.out
      simp only [euclid_over.l0] at hR
      by_cases hm0 : 0 ≤ m.f0
      case neg => rw [if_neg hm0] at hR; cases hR
      rw [if_pos hm0] at hR
      by_cases hm1 : m.f0 < (xs.length : Int)
      case neg => rw [if_neg hm1] at hR; cases hR
      rw [if_pos hm1] at hR
      have HR2 := Aside0.mk hR
      clear hR HR
      have hpos : 0 < xs.length := by omega
      have hA := HA.out hpos
      subst hA
      have hil : m.f0.toNat < xs.length := by omega
      obtain ⟨s, hs0, hs1, hs2⟩ := CX.out.p.1.2 m.f0.toNat hil
      have hrd : rd_T41 xs m.f0 = xs[m.f0.toNat] := by simp [rd_T41, hil]
      rw [← hrd] at hs0 hs2
      obtain ⟨As, cs_, es⟩ := Kd.R_slice hs2
      subst es
      have HS := Aside0.mk hs2
      have HS0 := Aside0.mk (And.intro hs0 hs1)
      obtain ⟨Y, hY⟩ : ∃ Y, Y = rd_T41 xs m.f0 := ⟨_, rfl⟩
      rw [← hY] at HS HS0 HR2
      have HYX := Aside0.mk (show xs[m.f0.toNat] = Y from hrd.symm.trans hY.symm)
      clear hs2 hs0 hs1 hrd hY
      have hx0 : 0 ≤ x := by have := HI.out.1; omega
      have hx1 : x < (l.length : Int) := by have := HI.out.1; have h2 := HLL.out; rw [List.length_cons] at h2; omega
      have c1 : decide (x < (l.length : Int)) = true := decide_eq_true hx1
      obtain ⟨adl, e2, hn0, hn1⟩ := at_T44 (Kd.V_reads' CX.out.p.1.1).2.2 x hx0 hx1
      have hrm : rd_T44 l x = m := by rw [← HI.out.2.2, HI.out.1]; simp [rd_T44]
      rw [hrm] at hn0 hn1
      subst e2
      clear hrm
      have hp1 := eq_true hx0
      have hp2 := eq_true hx1
      have hp3 := eq_true hm0
      have hp4 := eq_true hm1
      have HP := Aside0.mk hpos
      clear hx0 hx1 hm0 hm1 hpos
      go_wp2_with (first
        | ((with_reducible refine gate_dst (N := 8) rfl ?_); refine boxB CX 44 #[.int .i64 0, .int .i64 0] ?_; clear CX; intro g8 w5 CX hb_; replace hn0 := zcm hb_ hn0; replace hn1 := zcm hb_ hn1; clear hb_)
        | ((with_reducible refine gate_store (t := 44) (p := 8) rfl ?_); refine storeW CX (Cx.wh0n2) (st44 (CX.out.blk 0 rfl)) ?_; clear CX; intro w6 CX; clear hn0 hn1))
      replace CX := Aside0.mk CX.out.drew1
      refine start_ (n := 18) (S := fun w' => w'.cell? ⟨gW, 0, none⟩ = some (.slice (some ⟨gV, 0, none⟩) xs.length cv) ∧ w'.cell? ⟨g8, 0, none⟩ = some (.int .i64 m.f0) ∧ w'.cell? ⟨g8, 1, none⟩ = some (.int .i64 m.f1) ∧ w'.cell? ⟨gV, m.f0.toNat * 2, none⟩ = some (.int .i64 Y.f0) ∧ w'.cell? ⟨gV, m.f0.toNat * 2 + 1, none⟩ = some (.slice As Y.f1.length cs_)) (ds := []) (lB 18 0) (by kernel_rfl) rfl (by kernel_rfl) ⟨(blk_cell CX.out.t.1.1 0).trans rfl, CX.out.cell 0 0 rfl rfl, CX.out.cell 0 1 rfl rfl, (blk_cell (CX.out.t.1.2 HP.out) _).trans HS0.out.1, (blk_cell (CX.out.t.1.2 HP.out) _).trans HS0.out.2⟩ (fun hHeld => ?_); refine with_tabW euclid_over.tab5 euclid_over.bits5 (fun HT_ HW_ => ?_)
      generalize w6.drew = wd0 at CX hHeld ⊢
      refine pureA 0 23 (lB 18 1) ?_
      refine pureA 1 24 (lB 18 3) ?_
      refine pureA 2 25 (lB 18 7) ?_
      refine pureA 3 26 (lB 18 15) ?_
      refine takeA 4 27 (lB 18 31) ?_
      refine pureA 5 28 (lB 18 63) ?_
      refine takeA 6 29 (lB 18 127) ?_
      refine pureA 7 30 (lB 18 255) ?_
      refine takeA 8 31 (lB 18 511) ?_
      refine pureA 11 34 (lB 18 2559) ?_
      refine pureA 12 35 (lB 18 6655) ?_
      refine takeA 13 36 (lB 18 14847) ?_
      refine two_ (i := 9) (j := 14) (Ni := some 32) (Nj := some 37) (lB 18 15359) (lB 18 31231) rfl rfl rfl rfl (two_of HT_.out (by kernel_rfl)) (by decide) (by decide) (fun K hK => ?_) (fun K hK => ?_)
      ·skip
       refine Kd.R_lit_step kraw _ 41 ?hg (N := 32) ?hd (xs := ([(Y.f0, Value.slice As Y.f1.length cs_)] : List (Int × Value))) (inner := [.int .i64 Y.f0, .slice As Y.f1.length cs_]) (ok := fun _ => True) (okp := fun _ => True) ?hr ?hp (fun _ hk => hk) trivial (Below.refl _ _) (Nat.le_refl _) (by simp) ?_; (case hd => rfl); (case hg => rfl); (case hr => first | (go_simp; done) | (go_simp; rfl)); (case hp => exact (Reps.c2 (show Kd.M kraw _ _ _ (Y.f0, .slice As Y.f1.length cs_) [.int .i64 (Y.f0), .slice As Y.f1.length cs_] from ⟨rfl, rfl⟩) (Reps.none _ _)))
       intro v_ wd1 ho hb hg_ hnew_
       obtain ⟨A32, c32, ev_⟩ := Kd.R_slice ho
       subst ev_
       obtain ⟨RBn, CX2⟩ := CX.out.rows' (T' := (fun RB W => (W.heap[gW]? = some (.cells #[.slice (some ⟨gV, 0, none⟩) xs.length cv, pv, .int .i64 err] 86 (0, 0)) ∧ (0 < xs.length → W.heap[gV]? = some (.cells cs 41 (0, 0)))) ∧ Kd.R kraw 41 W w.heap.size RB (.slice Af fl.length cf) fl ∧ Kd.R (Kd.int .i64) 2 W w.heap.size RB (.slice Ab bl.length cb) bl ∧ Kd.R kraw 41 W w.heap.size RB (.slice A32 1 c32) [(Y.f0, Value.slice As Y.f1.length cs_)])) (Fs.of_below hb) (fun RB' r1 r2 => ⟨⟨blk_below CX.out.t.1.1 hb, fun h0 => blk_below (CX.out.t.1.2 h0) hb⟩, Kd.R_mono (Kd.R_below (CX.out.t.2.1) hb) r1, Kd.R_mono (Kd.R_below (CX.out.t.2.2) hb) r1, Kd.R_lower (Kd.R_mono (Kd.R_bound ho) (fun k hk => r2 k hk.2.1 hk.2.2.1)) CX.out.fs.size⟩) (ts_and (ts_and (ts_blk _ _ _ HM.out.2.1) (ts_imp (ts_blk _ _ _ HM.out.2.2.1))) (ts_and (ts_R _ _ _ _ _ _) (ts_and (ts_R _ _ _ _ _ _) (ts_R _ _ _ _ _ _))))
       replace CX := Aside0.mk CX2; clear CX2 ho hb hg_ hnew_
       refine hK.out _ _ ⟨(blk_cell CX.out.t.1.1 0).trans rfl, CX.out.cell 0 0 rfl rfl, CX.out.cell 0 1 rfl rfl, (blk_cell (CX.out.t.1.2 HP.out) _).trans HS0.out.1, (blk_cell (CX.out.t.1.2 HP.out) _).trans HS0.out.2⟩ (fun hHeld => ?_)
       clear hK K
       refine normA 32 ?_
       refine two_ (i := 10) (j := 14) (Ni := some 33) (Nj := some 37) (lB 18 16383) (lB 18 31743) rfl rfl rfl rfl (two_of HT_.out (by kernel_rfl)) (by decide) (by decide) (fun K hK => ?_) (fun K hK => ?_)
       ·skip
        obtain ⟨RBk, hRB⟩ : ∃ RBk, Cx w (fun b => b = gW) M RBk (fun RB W => (W.heap[gW]? = some (.cells #[.slice (some ⟨gV, 0, none⟩) xs.length cv, pv, .int .i64 err] 86 (0, 0)) ∧ (0 < xs.length → W.heap[gV]? = some (.cells cs 41 (0, 0)))) ∧ Kd.R kraw 41 W w.heap.size RB (.slice Af fl.length cf) fl ∧ Kd.R (Kd.int .i64) 2 W w.heap.size RB (.slice Ab bl.length cb) bl ∧ Kd.R kraw 41 W w.heap.size RB (.slice A32 1 c32) [(Y.f0, Value.slice As Y.f1.length cs_)]) (fun N W => (Kd.V k44 44 W 0 (fun b => ¬ N b) (.slice (some adl) l.length c0) l ∧ VE n0 cs xs N W) ∧ FV fl fS N W) wd1 [(g8, #[.int .i64 m.f0, .int .i64 m.f1], 44), (g4, #[.int .i64 0, .slice none 0 0], 41), (g3, #[.int .i64 K0, .slice (some adl) l.length c0], 41)] := ⟨_, CX.out⟩
        replace CX := Aside0.mk hRB; clear hRB
        refine Kd.R_append_rows_step kraw (w0 := wd1) w.heap.size (by rfl) (.tmp 23) (.tmp 32) 22 41 (.agg #[.int .i64 0, .slice none 0 0]) 32 rfl Try.underlying22 info41 rfl (by decide) (by omega) (.slice Af fl.length cf) fl [(Y.f0, Value.slice As Y.f1.length cs_)] _ _ _ (fun k_ => RBk k_ ∨ wd1.heap.size ≤ k_) (fun _ => False) rfl rfl ?aO ?aR (fun _ _ h => h) (fun _ h => h.elim) ?aF ?aB ?aS ?aL ?_
        (case aO => exact Kd.R_mono (CX.out.t.2.1) (fun _ h => .inl h))
        (case aR => exact (Kd.R_reads' (CX.out.t.2.2.2)).2.2)
        (case aF => exact fun _ h => .inr h)
        (case aB => exact Below.refl _ _)
        (case aS => exact CX.out.fs.size)
        (case aL => show (fl.length + 1) * 32 ≤ 140737488355328; have h1 := HLn.out; have h2 := HLL.out; have h3 := HL.out; rw [List.length_cons] at h2; omega)
        intro v_ wd2 ho hb hg hat
        obtain ⟨Af1, cf1, ev_⟩ := Kd.R_slice ho
        subst ev_
        have hFs := (Fs.grown hg).mono (S' := RBk) (fun b e _ => (CX.out.t.2.1).1 b e)
        obtain ⟨RBn, CX2⟩ := CX.out.rows' (T' := (fun RB W => (W.heap[gW]? = some (.cells #[.slice (some ⟨gV, 0, none⟩) xs.length cv, pv, .int .i64 err] 86 (0, 0)) ∧ (0 < xs.length → W.heap[gV]? = some (.cells cs 41 (0, 0)))) ∧ Kd.R kraw 41 W w.heap.size RB (.slice Af1 (fl ++ [(Y.f0, Value.slice As Y.f1.length cs_)]).length cf1) (fl ++ [(Y.f0, Value.slice As Y.f1.length cs_)]) ∧ Kd.R (Kd.int .i64) 2 W w.heap.size RB (.slice Ab bl.length cb) bl)) hFs (fun RB' r1 r2 => ⟨⟨CX.out.keepM hFs HM.out.2.1 CX.out.t.1.1, fun h0 => CX.out.keepM hFs HM.out.2.2.1 (CX.out.t.1.2 h0)⟩, Kd.R_mono (Kd.R_bound ho) (fun k hk => hk.1.elim (r1 k) (fun h => r2 k h hk.2.2.1)), Kd.R_mono (Kd.R_over' (CX.out.t.2.2.1) (Kd.R_typed (CX.out.t.2.1)) (by decide) hg) r1⟩) (ts_and (ts_and (ts_blk _ _ _ HM.out.2.1) (ts_imp (ts_blk _ _ _ HM.out.2.2.1))) (ts_and (ts_R _ _ _ _ _ _) (ts_R _ _ _ _ _ _)))
        replace CX := Aside0.mk CX2; clear CX2 ho hb hg hat hFs
        refine hK.out _ _ ⟨(blk_cell CX.out.t.1.1 0).trans rfl, CX.out.cell 0 0 rfl rfl, CX.out.cell 0 1 rfl rfl, (blk_cell (CX.out.t.1.2 HP.out) _).trans HS0.out.1, (blk_cell (CX.out.t.1.2 HP.out) _).trans HS0.out.2⟩ (fun hHeld => ?_)
        clear hK K
        refine normA 33 ?_
        refine one_ (i := 14) (N := some 37) (lB 18 32767) rfl rfl (one_of HT_.out (by kernel_rfl)) (by decide) (fun K hK => ?_)
        refine Kd.R_lit_step (Kd.int .i64) _ 2 ?hg (N := 37) ?hd (xs := ([m.f1] : List Int)) (inner := [.int .i64 m.f1]) (ok := fun _ => True) (okp := fun _ => True) ?hr ?hp (fun _ hk => hk) trivial (Below.refl _ _) (Nat.le_refl _) (by simp) ?_; (case hd => rfl); (case hg => rfl); (case hr => first | (go_simp; done) | (go_simp; rfl)); (case hp => exact (Reps.one (show Kd.M (Kd.int .i64) _ _ _ (m.f1) [.int .i64 m.f1] from rfl) (Reps.none _ _)))
        intro v_ wd3 ho hb hg_ hnew_
        obtain ⟨A37, c37, ev_⟩ := Kd.R_slice ho
        subst ev_
        obtain ⟨RBn, CX2⟩ := CX.out.rows' (T' := (fun RB W => (W.heap[gW]? = some (.cells #[.slice (some ⟨gV, 0, none⟩) xs.length cv, pv, .int .i64 err] 86 (0, 0)) ∧ (0 < xs.length → W.heap[gV]? = some (.cells cs 41 (0, 0)))) ∧ Kd.R kraw 41 W w.heap.size RB (.slice Af1 (fl ++ [(Y.f0, Value.slice As Y.f1.length cs_)]).length cf1) (fl ++ [(Y.f0, Value.slice As Y.f1.length cs_)]) ∧ Kd.R (Kd.int .i64) 2 W w.heap.size RB (.slice Ab bl.length cb) bl ∧ Kd.R (Kd.int .i64) 2 W w.heap.size RB (.slice A37 1 c37) [m.f1])) (Fs.of_below hb) (fun RB' r1 r2 => ⟨⟨blk_below CX.out.t.1.1 hb, fun h0 => blk_below (CX.out.t.1.2 h0) hb⟩, Kd.R_mono (Kd.R_below (CX.out.t.2.1) hb) r1, Kd.R_mono (Kd.R_below (CX.out.t.2.2) hb) r1, Kd.R_lower (Kd.R_mono (Kd.R_bound ho) (fun k hk => r2 k hk.2.1 hk.2.2.1)) CX.out.fs.size⟩) (ts_and (ts_and (ts_blk _ _ _ HM.out.2.1) (ts_imp (ts_blk _ _ _ HM.out.2.2.1))) (ts_and (ts_R _ _ _ _ _ _) (ts_and (ts_R _ _ _ _ _ _) (ts_R _ _ _ _ _ _))))
        replace CX := Aside0.mk CX2; clear CX2 ho hb hg_ hnew_
        refine hK.out _ _ ⟨(blk_cell CX.out.t.1.1 0).trans rfl, CX.out.cell 0 0 rfl rfl, CX.out.cell 0 1 rfl rfl, (blk_cell (CX.out.t.1.2 HP.out) _).trans HS0.out.1, (blk_cell (CX.out.t.1.2 HP.out) _).trans HS0.out.2⟩ (fun hHeld => ?_)
        clear hK K
        refine normA 37 ?_
        refine one_ (i := 15) (N := some 38) (lB 18 65535) rfl rfl (one_of HT_.out (by kernel_rfl)) (by decide) (fun K hK => ?_)
        obtain ⟨RBk, hRB⟩ : ∃ RBk, Cx w (fun b => b = gW) M RBk (fun RB W => (W.heap[gW]? = some (.cells #[.slice (some ⟨gV, 0, none⟩) xs.length cv, pv, .int .i64 err] 86 (0, 0)) ∧ (0 < xs.length → W.heap[gV]? = some (.cells cs 41 (0, 0)))) ∧ Kd.R kraw 41 W w.heap.size RB (.slice Af1 (fl ++ [(Y.f0, Value.slice As Y.f1.length cs_)]).length cf1) (fl ++ [(Y.f0, Value.slice As Y.f1.length cs_)]) ∧ Kd.R (Kd.int .i64) 2 W w.heap.size RB (.slice Ab bl.length cb) bl ∧ Kd.R (Kd.int .i64) 2 W w.heap.size RB (.slice A37 1 c37) [m.f1]) (fun N W => (Kd.V k44 44 W 0 (fun b => ¬ N b) (.slice (some adl) l.length c0) l ∧ VE n0 cs xs N W) ∧ FV fl fS N W) wd3 [(g8, #[.int .i64 m.f0, .int .i64 m.f1], 44), (g4, #[.int .i64 0, .slice none 0 0], 41), (g3, #[.int .i64 K0, .slice (some adl) l.length c0], 41)] := ⟨_, CX.out⟩
        replace CX := Aside0.mk hRB; clear hRB
        refine Kd.R_append_rows_step (Kd.int .i64) (w0 := wd3) w.heap.size (by rfl) (.tmp 34) (.tmp 37) 23 2 (.int .i64 0) 8 rfl Try.underlying23 info2 rfl (by decide) (by omega) (.slice Ab bl.length cb) bl [m.f1] _ _ _ (fun k_ => RBk k_ ∨ wd3.heap.size ≤ k_) (fun _ => False) rfl rfl ?aO ?aR (fun _ _ h => h) (fun _ h => h.elim) ?aF ?aB ?aS ?aL ?_
        (case aO => exact Kd.R_mono (CX.out.t.2.2.1) (fun _ h => .inl h))
        (case aR => exact (Kd.R_reads' (CX.out.t.2.2.2)).2.2)
        (case aF => exact fun _ h => .inr h)
        (case aB => exact Below.refl _ _)
        (case aS => exact CX.out.fs.size)
        (case aL => show (bl.length + 1) * 8 ≤ 140737488355328; have h1 := HLn.out; have h2 := HLL.out; have h3 := HL.out; rw [List.length_cons] at h2; omega)
        intro v_ wd4 ho hb hg hat
        obtain ⟨Ab1, cb1, ev_⟩ := Kd.R_slice ho
        subst ev_
        have hFs := (Fs.grown hg).mono (S' := RBk) (fun b e _ => (CX.out.t.2.2.1).1 b e)
        obtain ⟨RBn, CX2⟩ := CX.out.rows' (T' := (fun RB W => (W.heap[gW]? = some (.cells #[.slice (some ⟨gV, 0, none⟩) xs.length cv, pv, .int .i64 err] 86 (0, 0)) ∧ (0 < xs.length → W.heap[gV]? = some (.cells cs 41 (0, 0)))) ∧ Kd.R kraw 41 W w.heap.size RB (.slice Af1 (fl ++ [(Y.f0, Value.slice As Y.f1.length cs_)]).length cf1) (fl ++ [(Y.f0, Value.slice As Y.f1.length cs_)]) ∧ Kd.R (Kd.int .i64) 2 W w.heap.size RB (.slice Ab1 (bl ++ [m.f1]).length cb1) (bl ++ [m.f1]))) hFs (fun RB' r1 r2 => ⟨⟨CX.out.keepM hFs HM.out.2.1 CX.out.t.1.1, fun h0 => CX.out.keepM hFs HM.out.2.2.1 (CX.out.t.1.2 h0)⟩, Kd.R_mono (Kd.R_over' (CX.out.t.2.1) (Kd.R_typed (CX.out.t.2.2.1)) (by decide) hg) r1, Kd.R_mono (Kd.R_bound ho) (fun k hk => hk.1.elim (r1 k) (fun h => r2 k h hk.2.2.1))⟩) (ts_and (ts_and (ts_blk _ _ _ HM.out.2.1) (ts_imp (ts_blk _ _ _ HM.out.2.2.1))) (ts_and (ts_R _ _ _ _ _ _) (ts_R _ _ _ _ _ _)))
        replace CX := Aside0.mk CX2; clear CX2 ho hb hg hat hFs
        refine hK.out _ _ ⟨(blk_cell CX.out.t.1.1 0).trans rfl, CX.out.cell 0 0 rfl rfl, CX.out.cell 0 1 rfl rfl, (blk_cell (CX.out.t.1.2 HP.out) _).trans HS0.out.1, (blk_cell (CX.out.t.1.2 HP.out) _).trans HS0.out.2⟩ (fun hHeld => ?_)
        clear hK K
        refine normA 38 ?_
        refine pureA 16 5 (lB 18 131071) ?_
        refine pureA 17 6 (lB 18 262143) ?_
        refine done_ (done_of HT_.out (by kernel_rfl)) ?_
        have HSN := Aside0.mk (show Kd.R k44 44 wd4 n0 (fun b => ¬ Nx M RBn [(g8, #[.int .i64 m.f0, .int .i64 m.f1], 44), (g4, #[.int .i64 0, .slice none 0 0], 41), (g3, #[.int .i64 K0, .slice (some adl) l.length c0], 41)] b) (.slice As Y.f1.length cs_) Y.f1 from by
            obtain ⟨s', a0, a1, a2⟩ := CX.out.p.1.2 m.f0.toNat hil
            have e1 := Option.some.inj (HS0.out.2.symm.trans a1)
            have e3 : xs[m.f0.toNat] = Y := HYX.out
            rw [e3] at a2
            rw [e1]
            exact a2)
        go_wp2
        go_roundg gko
        case measure => omega
        case rel =>
          have hfv := FV_snoc CX.out.p.2 Y.f0 (.slice As Y.f1.length cs_) Y.f1 (Kd.R_V HSN.out)
          have CX3 := (CX.out.withP (P' := (fun N W => (Kd.V k44 44 W 0 (fun b => ¬ N b) (.slice (some adl) l.length c0) l ∧ VE n0 cs xs N W) ∧ FV (fl ++ [(Y.f0, Value.slice As Y.f1.length cs_)]) (fS ++ [⟨Y.f0, Y.f1⟩]) N W)) ⟨CX.out.p.1, hfv⟩ (((good_V _ _ _ _ _).and (good_VE _ _ _)).and (good_FV _ _))).drop 1
          have hY2 : (⟨Y.f0, Y.f1⟩ : S41) = Y := rfl
          refine ⟨_, zs ++ [m], rest, _, fS ++ [Y], bl ++ [m.f1], Af1, Ab1, cf1, cb1, _, rfl, (by first | rfl | (simp; done)), (by first | rfl | (simp; done)), ⟨?_, ?_, ?_⟩, HR2, ⟨?_, ?_⟩, ⟨CX3⟩⟩
          · have h1 := HI.out.1; have h2 := HLL.out; have h3 := HL.out; rw [List.length_cons] at h2; rw [List.length_append, List.length_singleton]; unfold wrap64; omega
          · have h1 := HI.out.2.1; rw [List.length_cons] at h1; omega
          · rw [List.append_assoc]; exact HI.out.2.2
          · rw [List.length_append, List.length_append, List.length_singleton, List.length_singleton, HLn.out.1]
          · rw [List.length_append, List.length_append, List.length_singleton, List.length_singleton, HLn.out.2]
       ·skip
        refine Kd.R_lit_step (Kd.int .i64) _ 2 ?hg (N := 37) ?hd (xs := ([m.f1] : List Int)) (inner := [.int .i64 m.f1]) (ok := fun _ => True) (okp := fun _ => True) ?hr ?hp (fun _ hk => hk) trivial (Below.refl _ _) (Nat.le_refl _) (by simp) ?_; (case hd => rfl); (case hg => rfl); (case hr => first | (go_simp; done) | (go_simp; rfl)); (case hp => exact (Reps.one (show Kd.M (Kd.int .i64) _ _ _ (m.f1) [.int .i64 m.f1] from rfl) (Reps.none _ _)))
        intro v_ wd5 ho hb hg_ hnew_
        obtain ⟨A37, c37, ev_⟩ := Kd.R_slice ho
        subst ev_
        obtain ⟨RBn, CX2⟩ := CX.out.rows' (T' := (fun RB W => (W.heap[gW]? = some (.cells #[.slice (some ⟨gV, 0, none⟩) xs.length cv, pv, .int .i64 err] 86 (0, 0)) ∧ (0 < xs.length → W.heap[gV]? = some (.cells cs 41 (0, 0)))) ∧ Kd.R kraw 41 W w.heap.size RB (.slice Af fl.length cf) fl ∧ Kd.R (Kd.int .i64) 2 W w.heap.size RB (.slice Ab bl.length cb) bl ∧ Kd.R kraw 41 W w.heap.size RB (.slice A32 1 c32) [(Y.f0, Value.slice As Y.f1.length cs_)] ∧ Kd.R (Kd.int .i64) 2 W w.heap.size RB (.slice A37 1 c37) [m.f1])) (Fs.of_below hb) (fun RB' r1 r2 => ⟨⟨blk_below CX.out.t.1.1 hb, fun h0 => blk_below (CX.out.t.1.2 h0) hb⟩, Kd.R_mono (Kd.R_below (CX.out.t.2.1) hb) r1, Kd.R_mono (Kd.R_below (CX.out.t.2.2.1) hb) r1, Kd.R_mono (Kd.R_below (CX.out.t.2.2.2) hb) r1, Kd.R_lower (Kd.R_mono (Kd.R_bound ho) (fun k hk => r2 k hk.2.1 hk.2.2.1)) CX.out.fs.size⟩) (ts_and (ts_and (ts_blk _ _ _ HM.out.2.1) (ts_imp (ts_blk _ _ _ HM.out.2.2.1))) (ts_and (ts_R _ _ _ _ _ _) (ts_and (ts_R _ _ _ _ _ _) (ts_and (ts_R _ _ _ _ _ _) (ts_R _ _ _ _ _ _)))))
        replace CX := Aside0.mk CX2; clear CX2 ho hb hg_ hnew_
        refine hK.out _ _ ⟨(blk_cell CX.out.t.1.1 0).trans rfl, CX.out.cell 0 0 rfl rfl, CX.out.cell 0 1 rfl rfl, (blk_cell (CX.out.t.1.2 HP.out) _).trans HS0.out.1, (blk_cell (CX.out.t.1.2 HP.out) _).trans HS0.out.2⟩ (fun hHeld => ?_)
        clear hK K
        refine normA 37 ?_
        refine one_ (i := 10) (N := some 33) (lB 18 32767) rfl rfl (one_of HT_.out (by kernel_rfl)) (by decide) (fun K hK => ?_)
        obtain ⟨RBk, hRB⟩ : ∃ RBk, Cx w (fun b => b = gW) M RBk (fun RB W => (W.heap[gW]? = some (.cells #[.slice (some ⟨gV, 0, none⟩) xs.length cv, pv, .int .i64 err] 86 (0, 0)) ∧ (0 < xs.length → W.heap[gV]? = some (.cells cs 41 (0, 0)))) ∧ Kd.R kraw 41 W w.heap.size RB (.slice Af fl.length cf) fl ∧ Kd.R (Kd.int .i64) 2 W w.heap.size RB (.slice Ab bl.length cb) bl ∧ Kd.R kraw 41 W w.heap.size RB (.slice A32 1 c32) [(Y.f0, Value.slice As Y.f1.length cs_)] ∧ Kd.R (Kd.int .i64) 2 W w.heap.size RB (.slice A37 1 c37) [m.f1]) (fun N W => (Kd.V k44 44 W 0 (fun b => ¬ N b) (.slice (some adl) l.length c0) l ∧ VE n0 cs xs N W) ∧ FV fl fS N W) wd5 [(g8, #[.int .i64 m.f0, .int .i64 m.f1], 44), (g4, #[.int .i64 0, .slice none 0 0], 41), (g3, #[.int .i64 K0, .slice (some adl) l.length c0], 41)] := ⟨_, CX.out⟩
        replace CX := Aside0.mk hRB; clear hRB
        refine Kd.R_append_rows_step kraw (w0 := wd5) w.heap.size (by rfl) (.tmp 23) (.tmp 32) 22 41 (.agg #[.int .i64 0, .slice none 0 0]) 32 rfl Try.underlying22 info41 rfl (by decide) (by omega) (.slice Af fl.length cf) fl [(Y.f0, Value.slice As Y.f1.length cs_)] _ _ _ (fun k_ => RBk k_ ∨ wd5.heap.size ≤ k_) (fun _ => False) rfl rfl ?aO ?aR (fun _ _ h => h) (fun _ h => h.elim) ?aF ?aB ?aS ?aL ?_
        (case aO => exact Kd.R_mono (CX.out.t.2.1) (fun _ h => .inl h))
        (case aR => exact (Kd.R_reads' (CX.out.t.2.2.2.1)).2.2)
        (case aF => exact fun _ h => .inr h)
        (case aB => exact Below.refl _ _)
        (case aS => exact CX.out.fs.size)
        (case aL => show (fl.length + 1) * 32 ≤ 140737488355328; have h1 := HLn.out; have h2 := HLL.out; have h3 := HL.out; rw [List.length_cons] at h2; omega)
        intro v_ wd6 ho hb hg hat
        obtain ⟨Af1, cf1, ev_⟩ := Kd.R_slice ho
        subst ev_
        have hFs := (Fs.grown hg).mono (S' := RBk) (fun b e _ => (CX.out.t.2.1).1 b e)
        obtain ⟨RBn, CX2⟩ := CX.out.rows' (T' := (fun RB W => (W.heap[gW]? = some (.cells #[.slice (some ⟨gV, 0, none⟩) xs.length cv, pv, .int .i64 err] 86 (0, 0)) ∧ (0 < xs.length → W.heap[gV]? = some (.cells cs 41 (0, 0)))) ∧ Kd.R kraw 41 W w.heap.size RB (.slice Af1 (fl ++ [(Y.f0, Value.slice As Y.f1.length cs_)]).length cf1) (fl ++ [(Y.f0, Value.slice As Y.f1.length cs_)]) ∧ Kd.R (Kd.int .i64) 2 W w.heap.size RB (.slice Ab bl.length cb) bl ∧ Kd.R (Kd.int .i64) 2 W w.heap.size RB (.slice A37 1 c37) [m.f1])) hFs (fun RB' r1 r2 => ⟨⟨CX.out.keepM hFs HM.out.2.1 CX.out.t.1.1, fun h0 => CX.out.keepM hFs HM.out.2.2.1 (CX.out.t.1.2 h0)⟩, Kd.R_mono (Kd.R_bound ho) (fun k hk => hk.1.elim (r1 k) (fun h => r2 k h hk.2.2.1)), Kd.R_mono (Kd.R_over' (CX.out.t.2.2.1) (Kd.R_typed (CX.out.t.2.1)) (by decide) hg) r1, Kd.R_mono (Kd.R_over' (CX.out.t.2.2.2.2) (Kd.R_typed (CX.out.t.2.1)) (by decide) hg) r1⟩) (ts_and (ts_and (ts_blk _ _ _ HM.out.2.1) (ts_imp (ts_blk _ _ _ HM.out.2.2.1))) (ts_and (ts_R _ _ _ _ _ _) (ts_and (ts_R _ _ _ _ _ _) (ts_R _ _ _ _ _ _))))
        replace CX := Aside0.mk CX2; clear CX2 ho hb hg hat hFs
        refine hK.out _ _ ⟨(blk_cell CX.out.t.1.1 0).trans rfl, CX.out.cell 0 0 rfl rfl, CX.out.cell 0 1 rfl rfl, (blk_cell (CX.out.t.1.2 HP.out) _).trans HS0.out.1, (blk_cell (CX.out.t.1.2 HP.out) _).trans HS0.out.2⟩ (fun hHeld => ?_)
        clear hK K
        refine normA 33 ?_
        refine one_ (i := 15) (N := some 38) (lB 18 65535) rfl rfl (one_of HT_.out (by kernel_rfl)) (by decide) (fun K hK => ?_)
        obtain ⟨RBk, hRB⟩ : ∃ RBk, Cx w (fun b => b = gW) M RBk (fun RB W => (W.heap[gW]? = some (.cells #[.slice (some ⟨gV, 0, none⟩) xs.length cv, pv, .int .i64 err] 86 (0, 0)) ∧ (0 < xs.length → W.heap[gV]? = some (.cells cs 41 (0, 0)))) ∧ Kd.R kraw 41 W w.heap.size RB (.slice Af1 (fl ++ [(Y.f0, Value.slice As Y.f1.length cs_)]).length cf1) (fl ++ [(Y.f0, Value.slice As Y.f1.length cs_)]) ∧ Kd.R (Kd.int .i64) 2 W w.heap.size RB (.slice Ab bl.length cb) bl ∧ Kd.R (Kd.int .i64) 2 W w.heap.size RB (.slice A37 1 c37) [m.f1]) (fun N W => (Kd.V k44 44 W 0 (fun b => ¬ N b) (.slice (some adl) l.length c0) l ∧ VE n0 cs xs N W) ∧ FV fl fS N W) wd6 [(g8, #[.int .i64 m.f0, .int .i64 m.f1], 44), (g4, #[.int .i64 0, .slice none 0 0], 41), (g3, #[.int .i64 K0, .slice (some adl) l.length c0], 41)] := ⟨_, CX.out⟩
        replace CX := Aside0.mk hRB; clear hRB
        refine Kd.R_append_rows_step (Kd.int .i64) (w0 := wd6) w.heap.size (by rfl) (.tmp 34) (.tmp 37) 23 2 (.int .i64 0) 8 rfl Try.underlying23 info2 rfl (by decide) (by omega) (.slice Ab bl.length cb) bl [m.f1] _ _ _ (fun k_ => RBk k_ ∨ wd6.heap.size ≤ k_) (fun _ => False) rfl rfl ?aO ?aR (fun _ _ h => h) (fun _ h => h.elim) ?aF ?aB ?aS ?aL ?_
        (case aO => exact Kd.R_mono (CX.out.t.2.2.1) (fun _ h => .inl h))
        (case aR => exact (Kd.R_reads' (CX.out.t.2.2.2)).2.2)
        (case aF => exact fun _ h => .inr h)
        (case aB => exact Below.refl _ _)
        (case aS => exact CX.out.fs.size)
        (case aL => show (bl.length + 1) * 8 ≤ 140737488355328; have h1 := HLn.out; have h2 := HLL.out; have h3 := HL.out; rw [List.length_cons] at h2; omega)
        intro v_ wd7 ho hb hg hat
        obtain ⟨Ab1, cb1, ev_⟩ := Kd.R_slice ho
        subst ev_
        have hFs := (Fs.grown hg).mono (S' := RBk) (fun b e _ => (CX.out.t.2.2.1).1 b e)
        obtain ⟨RBn, CX2⟩ := CX.out.rows' (T' := (fun RB W => (W.heap[gW]? = some (.cells #[.slice (some ⟨gV, 0, none⟩) xs.length cv, pv, .int .i64 err] 86 (0, 0)) ∧ (0 < xs.length → W.heap[gV]? = some (.cells cs 41 (0, 0)))) ∧ Kd.R kraw 41 W w.heap.size RB (.slice Af1 (fl ++ [(Y.f0, Value.slice As Y.f1.length cs_)]).length cf1) (fl ++ [(Y.f0, Value.slice As Y.f1.length cs_)]) ∧ Kd.R (Kd.int .i64) 2 W w.heap.size RB (.slice Ab1 (bl ++ [m.f1]).length cb1) (bl ++ [m.f1]))) hFs (fun RB' r1 r2 => ⟨⟨CX.out.keepM hFs HM.out.2.1 CX.out.t.1.1, fun h0 => CX.out.keepM hFs HM.out.2.2.1 (CX.out.t.1.2 h0)⟩, Kd.R_mono (Kd.R_over' (CX.out.t.2.1) (Kd.R_typed (CX.out.t.2.2.1)) (by decide) hg) r1, Kd.R_mono (Kd.R_bound ho) (fun k hk => hk.1.elim (r1 k) (fun h => r2 k h hk.2.2.1))⟩) (ts_and (ts_and (ts_blk _ _ _ HM.out.2.1) (ts_imp (ts_blk _ _ _ HM.out.2.2.1))) (ts_and (ts_R _ _ _ _ _ _) (ts_R _ _ _ _ _ _)))
        replace CX := Aside0.mk CX2; clear CX2 ho hb hg hat hFs
        refine hK.out _ _ ⟨(blk_cell CX.out.t.1.1 0).trans rfl, CX.out.cell 0 0 rfl rfl, CX.out.cell 0 1 rfl rfl, (blk_cell (CX.out.t.1.2 HP.out) _).trans HS0.out.1, (blk_cell (CX.out.t.1.2 HP.out) _).trans HS0.out.2⟩ (fun hHeld => ?_)
        clear hK K
        refine normA 38 ?_
        refine pureA 16 5 (lB 18 131071) ?_
        refine pureA 17 6 (lB 18 262143) ?_
        refine done_ (done_of HT_.out (by kernel_rfl)) ?_
        have HSN := Aside0.mk (show Kd.R k44 44 wd7 n0 (fun b => ¬ Nx M RBn [(g8, #[.int .i64 m.f0, .int .i64 m.f1], 44), (g4, #[.int .i64 0, .slice none 0 0], 41), (g3, #[.int .i64 K0, .slice (some adl) l.length c0], 41)] b) (.slice As Y.f1.length cs_) Y.f1 from by
            obtain ⟨s', a0, a1, a2⟩ := CX.out.p.1.2 m.f0.toNat hil
            have e1 := Option.some.inj (HS0.out.2.symm.trans a1)
            have e3 : xs[m.f0.toNat] = Y := HYX.out
            rw [e3] at a2
            rw [e1]
            exact a2)
        go_wp2
        go_roundg gko
        case measure => omega
        case rel =>
          have hfv := FV_snoc CX.out.p.2 Y.f0 (.slice As Y.f1.length cs_) Y.f1 (Kd.R_V HSN.out)
          have CX3 := (CX.out.withP (P' := (fun N W => (Kd.V k44 44 W 0 (fun b => ¬ N b) (.slice (some adl) l.length c0) l ∧ VE n0 cs xs N W) ∧ FV (fl ++ [(Y.f0, Value.slice As Y.f1.length cs_)]) (fS ++ [⟨Y.f0, Y.f1⟩]) N W)) ⟨CX.out.p.1, hfv⟩ (((good_V _ _ _ _ _).and (good_VE _ _ _)).and (good_FV _ _))).drop 1
          have hY2 : (⟨Y.f0, Y.f1⟩ : S41) = Y := rfl
          refine ⟨_, zs ++ [m], rest, _, fS ++ [Y], bl ++ [m.f1], Af1, Ab1, cf1, cb1, _, rfl, (by first | rfl | (simp; done)), (by first | rfl | (simp; done)), ⟨?_, ?_, ?_⟩, HR2, ⟨?_, ?_⟩, ⟨CX3⟩⟩
          · have h1 := HI.out.1; have h2 := HLL.out; have h3 := HL.out; rw [List.length_cons] at h2; rw [List.length_append, List.length_singleton]; unfold wrap64; omega
          · have h1 := HI.out.2.1; rw [List.length_cons] at h1; omega
          · rw [List.append_assoc]; exact HI.out.2.2
          · rw [List.length_append, List.length_append, List.length_singleton, List.length_singleton, HLn.out.1]
          · rw [List.length_append, List.length_append, List.length_singleton, List.length_singleton, HLn.out.2]
      ·skip
       refine Kd.R_lit_step (Kd.int .i64) _ 2 ?hg (N := 37) ?hd (xs := ([m.f1] : List Int)) (inner := [.int .i64 m.f1]) (ok := fun _ => True) (okp := fun _ => True) ?hr ?hp (fun _ hk => hk) trivial (Below.refl _ _) (Nat.le_refl _) (by simp) ?_; (case hd => rfl); (case hg => rfl); (case hr => first | (go_simp; done) | (go_simp; rfl)); (case hp => exact (Reps.one (show Kd.M (Kd.int .i64) _ _ _ (m.f1) [.int .i64 m.f1] from rfl) (Reps.none _ _)))
       intro v_ wd8 ho hb hg_ hnew_
       obtain ⟨A37, c37, ev_⟩ := Kd.R_slice ho
       subst ev_
       obtain ⟨RBn, CX2⟩ := CX.out.rows' (T' := (fun RB W => (W.heap[gW]? = some (.cells #[.slice (some ⟨gV, 0, none⟩) xs.length cv, pv, .int .i64 err] 86 (0, 0)) ∧ (0 < xs.length → W.heap[gV]? = some (.cells cs 41 (0, 0)))) ∧ Kd.R kraw 41 W w.heap.size RB (.slice Af fl.length cf) fl ∧ Kd.R (Kd.int .i64) 2 W w.heap.size RB (.slice Ab bl.length cb) bl ∧ Kd.R (Kd.int .i64) 2 W w.heap.size RB (.slice A37 1 c37) [m.f1])) (Fs.of_below hb) (fun RB' r1 r2 => ⟨⟨blk_below CX.out.t.1.1 hb, fun h0 => blk_below (CX.out.t.1.2 h0) hb⟩, Kd.R_mono (Kd.R_below (CX.out.t.2.1) hb) r1, Kd.R_mono (Kd.R_below (CX.out.t.2.2) hb) r1, Kd.R_lower (Kd.R_mono (Kd.R_bound ho) (fun k hk => r2 k hk.2.1 hk.2.2.1)) CX.out.fs.size⟩) (ts_and (ts_and (ts_blk _ _ _ HM.out.2.1) (ts_imp (ts_blk _ _ _ HM.out.2.2.1))) (ts_and (ts_R _ _ _ _ _ _) (ts_and (ts_R _ _ _ _ _ _) (ts_R _ _ _ _ _ _))))
       replace CX := Aside0.mk CX2; clear CX2 ho hb hg_ hnew_
       refine hK.out _ _ ⟨(blk_cell CX.out.t.1.1 0).trans rfl, CX.out.cell 0 0 rfl rfl, CX.out.cell 0 1 rfl rfl, (blk_cell (CX.out.t.1.2 HP.out) _).trans HS0.out.1, (blk_cell (CX.out.t.1.2 HP.out) _).trans HS0.out.2⟩ (fun hHeld => ?_)
       clear hK K
       refine normA 37 ?_
       refine one_ (i := 9) (N := some 32) (lB 18 31743) rfl rfl (one_of HT_.out (by kernel_rfl)) (by decide) (fun K hK => ?_)
       refine Kd.R_lit_step kraw _ 41 ?hg (N := 32) ?hd (xs := ([(Y.f0, Value.slice As Y.f1.length cs_)] : List (Int × Value))) (inner := [.int .i64 Y.f0, .slice As Y.f1.length cs_]) (ok := fun _ => True) (okp := fun _ => True) ?hr ?hp (fun _ hk => hk) trivial (Below.refl _ _) (Nat.le_refl _) (by simp) ?_; (case hd => rfl); (case hg => rfl); (case hr => first | (go_simp; done) | (go_simp; rfl)); (case hp => exact (Reps.c2 (show Kd.M kraw _ _ _ (Y.f0, .slice As Y.f1.length cs_) [.int .i64 (Y.f0), .slice As Y.f1.length cs_] from ⟨rfl, rfl⟩) (Reps.none _ _)))
       intro v_ wd9 ho hb hg_ hnew_
       obtain ⟨A32, c32, ev_⟩ := Kd.R_slice ho
       subst ev_
       obtain ⟨RBn, CX2⟩ := CX.out.rows' (T' := (fun RB W => (W.heap[gW]? = some (.cells #[.slice (some ⟨gV, 0, none⟩) xs.length cv, pv, .int .i64 err] 86 (0, 0)) ∧ (0 < xs.length → W.heap[gV]? = some (.cells cs 41 (0, 0)))) ∧ Kd.R kraw 41 W w.heap.size RB (.slice Af fl.length cf) fl ∧ Kd.R (Kd.int .i64) 2 W w.heap.size RB (.slice Ab bl.length cb) bl ∧ Kd.R (Kd.int .i64) 2 W w.heap.size RB (.slice A37 1 c37) [m.f1] ∧ Kd.R kraw 41 W w.heap.size RB (.slice A32 1 c32) [(Y.f0, Value.slice As Y.f1.length cs_)])) (Fs.of_below hb) (fun RB' r1 r2 => ⟨⟨blk_below CX.out.t.1.1 hb, fun h0 => blk_below (CX.out.t.1.2 h0) hb⟩, Kd.R_mono (Kd.R_below (CX.out.t.2.1) hb) r1, Kd.R_mono (Kd.R_below (CX.out.t.2.2.1) hb) r1, Kd.R_mono (Kd.R_below (CX.out.t.2.2.2) hb) r1, Kd.R_lower (Kd.R_mono (Kd.R_bound ho) (fun k hk => r2 k hk.2.1 hk.2.2.1)) CX.out.fs.size⟩) (ts_and (ts_and (ts_blk _ _ _ HM.out.2.1) (ts_imp (ts_blk _ _ _ HM.out.2.2.1))) (ts_and (ts_R _ _ _ _ _ _) (ts_and (ts_R _ _ _ _ _ _) (ts_and (ts_R _ _ _ _ _ _) (ts_R _ _ _ _ _ _)))))
       replace CX := Aside0.mk CX2; clear CX2 ho hb hg_ hnew_
       refine hK.out _ _ ⟨(blk_cell CX.out.t.1.1 0).trans rfl, CX.out.cell 0 0 rfl rfl, CX.out.cell 0 1 rfl rfl, (blk_cell (CX.out.t.1.2 HP.out) _).trans HS0.out.1, (blk_cell (CX.out.t.1.2 HP.out) _).trans HS0.out.2⟩ (fun hHeld => ?_)
       clear hK K
       refine normA 32 ?_
       refine one_ (i := 10) (N := some 33) (lB 18 32767) rfl rfl (one_of HT_.out (by kernel_rfl)) (by decide) (fun K hK => ?_)
       obtain ⟨RBk, hRB⟩ : ∃ RBk, Cx w (fun b => b = gW) M RBk (fun RB W => (W.heap[gW]? = some (.cells #[.slice (some ⟨gV, 0, none⟩) xs.length cv, pv, .int .i64 err] 86 (0, 0)) ∧ (0 < xs.length → W.heap[gV]? = some (.cells cs 41 (0, 0)))) ∧ Kd.R kraw 41 W w.heap.size RB (.slice Af fl.length cf) fl ∧ Kd.R (Kd.int .i64) 2 W w.heap.size RB (.slice Ab bl.length cb) bl ∧ Kd.R (Kd.int .i64) 2 W w.heap.size RB (.slice A37 1 c37) [m.f1] ∧ Kd.R kraw 41 W w.heap.size RB (.slice A32 1 c32) [(Y.f0, Value.slice As Y.f1.length cs_)]) (fun N W => (Kd.V k44 44 W 0 (fun b => ¬ N b) (.slice (some adl) l.length c0) l ∧ VE n0 cs xs N W) ∧ FV fl fS N W) wd9 [(g8, #[.int .i64 m.f0, .int .i64 m.f1], 44), (g4, #[.int .i64 0, .slice none 0 0], 41), (g3, #[.int .i64 K0, .slice (some adl) l.length c0], 41)] := ⟨_, CX.out⟩
       replace CX := Aside0.mk hRB; clear hRB
       refine Kd.R_append_rows_step kraw (w0 := wd9) w.heap.size (by rfl) (.tmp 23) (.tmp 32) 22 41 (.agg #[.int .i64 0, .slice none 0 0]) 32 rfl Try.underlying22 info41 rfl (by decide) (by omega) (.slice Af fl.length cf) fl [(Y.f0, Value.slice As Y.f1.length cs_)] _ _ _ (fun k_ => RBk k_ ∨ wd9.heap.size ≤ k_) (fun _ => False) rfl rfl ?aO ?aR (fun _ _ h => h) (fun _ h => h.elim) ?aF ?aB ?aS ?aL ?_
       (case aO => exact Kd.R_mono (CX.out.t.2.1) (fun _ h => .inl h))
       (case aR => exact (Kd.R_reads' (CX.out.t.2.2.2.2)).2.2)
       (case aF => exact fun _ h => .inr h)
       (case aB => exact Below.refl _ _)
       (case aS => exact CX.out.fs.size)
       (case aL => show (fl.length + 1) * 32 ≤ 140737488355328; have h1 := HLn.out; have h2 := HLL.out; have h3 := HL.out; rw [List.length_cons] at h2; omega)
       intro v_ wd10 ho hb hg hat
       obtain ⟨Af1, cf1, ev_⟩ := Kd.R_slice ho
       subst ev_
       have hFs := (Fs.grown hg).mono (S' := RBk) (fun b e _ => (CX.out.t.2.1).1 b e)
       obtain ⟨RBn, CX2⟩ := CX.out.rows' (T' := (fun RB W => (W.heap[gW]? = some (.cells #[.slice (some ⟨gV, 0, none⟩) xs.length cv, pv, .int .i64 err] 86 (0, 0)) ∧ (0 < xs.length → W.heap[gV]? = some (.cells cs 41 (0, 0)))) ∧ Kd.R kraw 41 W w.heap.size RB (.slice Af1 (fl ++ [(Y.f0, Value.slice As Y.f1.length cs_)]).length cf1) (fl ++ [(Y.f0, Value.slice As Y.f1.length cs_)]) ∧ Kd.R (Kd.int .i64) 2 W w.heap.size RB (.slice Ab bl.length cb) bl ∧ Kd.R (Kd.int .i64) 2 W w.heap.size RB (.slice A37 1 c37) [m.f1])) hFs (fun RB' r1 r2 => ⟨⟨CX.out.keepM hFs HM.out.2.1 CX.out.t.1.1, fun h0 => CX.out.keepM hFs HM.out.2.2.1 (CX.out.t.1.2 h0)⟩, Kd.R_mono (Kd.R_bound ho) (fun k hk => hk.1.elim (r1 k) (fun h => r2 k h hk.2.2.1)), Kd.R_mono (Kd.R_over' (CX.out.t.2.2.1) (Kd.R_typed (CX.out.t.2.1)) (by decide) hg) r1, Kd.R_mono (Kd.R_over' (CX.out.t.2.2.2.1) (Kd.R_typed (CX.out.t.2.1)) (by decide) hg) r1⟩) (ts_and (ts_and (ts_blk _ _ _ HM.out.2.1) (ts_imp (ts_blk _ _ _ HM.out.2.2.1))) (ts_and (ts_R _ _ _ _ _ _) (ts_and (ts_R _ _ _ _ _ _) (ts_R _ _ _ _ _ _))))
       replace CX := Aside0.mk CX2; clear CX2 ho hb hg hat hFs
       refine hK.out _ _ ⟨(blk_cell CX.out.t.1.1 0).trans rfl, CX.out.cell 0 0 rfl rfl, CX.out.cell 0 1 rfl rfl, (blk_cell (CX.out.t.1.2 HP.out) _).trans HS0.out.1, (blk_cell (CX.out.t.1.2 HP.out) _).trans HS0.out.2⟩ (fun hHeld => ?_)
       clear hK K
       refine normA 33 ?_
       refine one_ (i := 15) (N := some 38) (lB 18 65535) rfl rfl (one_of HT_.out (by kernel_rfl)) (by decide) (fun K hK => ?_)
       obtain ⟨RBk, hRB⟩ : ∃ RBk, Cx w (fun b => b = gW) M RBk (fun RB W => (W.heap[gW]? = some (.cells #[.slice (some ⟨gV, 0, none⟩) xs.length cv, pv, .int .i64 err] 86 (0, 0)) ∧ (0 < xs.length → W.heap[gV]? = some (.cells cs 41 (0, 0)))) ∧ Kd.R kraw 41 W w.heap.size RB (.slice Af1 (fl ++ [(Y.f0, Value.slice As Y.f1.length cs_)]).length cf1) (fl ++ [(Y.f0, Value.slice As Y.f1.length cs_)]) ∧ Kd.R (Kd.int .i64) 2 W w.heap.size RB (.slice Ab bl.length cb) bl ∧ Kd.R (Kd.int .i64) 2 W w.heap.size RB (.slice A37 1 c37) [m.f1]) (fun N W => (Kd.V k44 44 W 0 (fun b => ¬ N b) (.slice (some adl) l.length c0) l ∧ VE n0 cs xs N W) ∧ FV fl fS N W) wd10 [(g8, #[.int .i64 m.f0, .int .i64 m.f1], 44), (g4, #[.int .i64 0, .slice none 0 0], 41), (g3, #[.int .i64 K0, .slice (some adl) l.length c0], 41)] := ⟨_, CX.out⟩
       replace CX := Aside0.mk hRB; clear hRB
       refine Kd.R_append_rows_step (Kd.int .i64) (w0 := wd10) w.heap.size (by rfl) (.tmp 34) (.tmp 37) 23 2 (.int .i64 0) 8 rfl Try.underlying23 info2 rfl (by decide) (by omega) (.slice Ab bl.length cb) bl [m.f1] _ _ _ (fun k_ => RBk k_ ∨ wd10.heap.size ≤ k_) (fun _ => False) rfl rfl ?aO ?aR (fun _ _ h => h) (fun _ h => h.elim) ?aF ?aB ?aS ?aL ?_
       (case aO => exact Kd.R_mono (CX.out.t.2.2.1) (fun _ h => .inl h))
       (case aR => exact (Kd.R_reads' (CX.out.t.2.2.2)).2.2)
       (case aF => exact fun _ h => .inr h)
       (case aB => exact Below.refl _ _)
       (case aS => exact CX.out.fs.size)
       (case aL => show (bl.length + 1) * 8 ≤ 140737488355328; have h1 := HLn.out; have h2 := HLL.out; have h3 := HL.out; rw [List.length_cons] at h2; omega)
       intro v_ wd11 ho hb hg hat
       obtain ⟨Ab1, cb1, ev_⟩ := Kd.R_slice ho
       subst ev_
       have hFs := (Fs.grown hg).mono (S' := RBk) (fun b e _ => (CX.out.t.2.2.1).1 b e)
       obtain ⟨RBn, CX2⟩ := CX.out.rows' (T' := (fun RB W => (W.heap[gW]? = some (.cells #[.slice (some ⟨gV, 0, none⟩) xs.length cv, pv, .int .i64 err] 86 (0, 0)) ∧ (0 < xs.length → W.heap[gV]? = some (.cells cs 41 (0, 0)))) ∧ Kd.R kraw 41 W w.heap.size RB (.slice Af1 (fl ++ [(Y.f0, Value.slice As Y.f1.length cs_)]).length cf1) (fl ++ [(Y.f0, Value.slice As Y.f1.length cs_)]) ∧ Kd.R (Kd.int .i64) 2 W w.heap.size RB (.slice Ab1 (bl ++ [m.f1]).length cb1) (bl ++ [m.f1]))) hFs (fun RB' r1 r2 => ⟨⟨CX.out.keepM hFs HM.out.2.1 CX.out.t.1.1, fun h0 => CX.out.keepM hFs HM.out.2.2.1 (CX.out.t.1.2 h0)⟩, Kd.R_mono (Kd.R_over' (CX.out.t.2.1) (Kd.R_typed (CX.out.t.2.2.1)) (by decide) hg) r1, Kd.R_mono (Kd.R_bound ho) (fun k hk => hk.1.elim (r1 k) (fun h => r2 k h hk.2.2.1))⟩) (ts_and (ts_and (ts_blk _ _ _ HM.out.2.1) (ts_imp (ts_blk _ _ _ HM.out.2.2.1))) (ts_and (ts_R _ _ _ _ _ _) (ts_R _ _ _ _ _ _)))
       replace CX := Aside0.mk CX2; clear CX2 ho hb hg hat hFs
       refine hK.out _ _ ⟨(blk_cell CX.out.t.1.1 0).trans rfl, CX.out.cell 0 0 rfl rfl, CX.out.cell 0 1 rfl rfl, (blk_cell (CX.out.t.1.2 HP.out) _).trans HS0.out.1, (blk_cell (CX.out.t.1.2 HP.out) _).trans HS0.out.2⟩ (fun hHeld => ?_)
       clear hK K
       refine normA 38 ?_
       refine pureA 16 5 (lB 18 131071) ?_
       refine pureA 17 6 (lB 18 262143) ?_
       refine done_ (done_of HT_.out (by kernel_rfl)) ?_
       have HSN := Aside0.mk (show Kd.R k44 44 wd11 n0 (fun b => ¬ Nx M RBn [(g8, #[.int .i64 m.f0, .int .i64 m.f1], 44), (g4, #[.int .i64 0, .slice none 0 0], 41), (g3, #[.int .i64 K0, .slice (some adl) l.length c0], 41)] b) (.slice As Y.f1.length cs_) Y.f1 from by
           obtain ⟨s', a0, a1, a2⟩ := CX.out.p.1.2 m.f0.toNat hil
           have e1 := Option.some.inj (HS0.out.2.symm.trans a1)
           have e3 : xs[m.f0.toNat] = Y := HYX.out
           rw [e3] at a2
           rw [e1]
           exact a2)
       go_wp2
       go_roundg gko
       case measure => omega
       case rel =>
         have hfv := FV_snoc CX.out.p.2 Y.f0 (.slice As Y.f1.length cs_) Y.f1 (Kd.R_V HSN.out)
         have CX3 := (CX.out.withP (P' := (fun N W => (Kd.V k44 44 W 0 (fun b => ¬ N b) (.slice (some adl) l.length c0) l ∧ VE n0 cs xs N W) ∧ FV (fl ++ [(Y.f0, Value.slice As Y.f1.length cs_)]) (fS ++ [⟨Y.f0, Y.f1⟩]) N W)) ⟨CX.out.p.1, hfv⟩ (((good_V _ _ _ _ _).and (good_VE _ _ _)).and (good_FV _ _))).drop 1
         have hY2 : (⟨Y.f0, Y.f1⟩ : S41) = Y := rfl
         refine ⟨_, zs ++ [m], rest, _, fS ++ [Y], bl ++ [m.f1], Af1, Ab1, cf1, cb1, _, rfl, (by first | rfl | (simp; done)), (by first | rfl | (simp; done)), ⟨?_, ?_, ?_⟩, HR2, ⟨?_, ?_⟩, ⟨CX3⟩⟩
         · have h1 := HI.out.1; have h2 := HLL.out; have h3 := HL.out; rw [List.length_cons] at h2; rw [List.length_append, List.length_singleton]; unfold wrap64; omega
         · have h1 := HI.out.2.1; rw [List.length_cons] at h1; omega
         · rw [List.append_assoc]; exact HI.out.2.2
         · rw [List.length_append, List.length_append, List.length_singleton, List.length_singleton, HLn.out.1]
         · rw [List.length_append, List.length_append, List.length_singleton, List.length_singleton, HLn.out.2]
def euclid_clear.T10 : Bool × List (List Nat × List Nat) := (true, [([], []), ([], []), ([0, 0], [0]), ([1, 2, 0, 1, 2], [1])])
def euclid_clear.B10 : List Nat := [0, 0, 1, 7]
theorem euclid_clear.tab10 : rtab .any (opsOf Try.f40 10) = euclid_clear.T10 := by kernel_rfl
theorem euclid_clear.bits10 : waitsOk euclid_clear.T10.2 euclid_clear.B10 = true := by kernel_rfl
def euclid_clear.T14 : Bool × List (List Nat × List Nat) := (true, [([], []), ([], []), ([0, 0], [0]), ([1, 2, 0, 1, 2], [1])])
def euclid_clear.B14 : List Nat := [0, 0, 1, 7]
theorem euclid_clear.tab14 : rtab .any (opsOf Try.f40 14) = euclid_clear.T14 := by kernel_rfl
theorem euclid_clear.bits14 : waitsOk euclid_clear.T14.2 euclid_clear.B14 = true := by kernel_rfl
def euclid_clear.T15 : Bool × List (List Nat × List Nat) := (true, [([], []), ([], []), ([], []), ([2], [2]), ([], []), ([], []), ([5], [5]), ([1, 3, 4, 6], [1, 3, 4, 6]), ([0, 7, 0], [0]), ([7, 8, 0, 1, 2, 3, 4, 5, 6, 7, 8], [7])])
def euclid_clear.B15 : List Nat := [0, 0, 0, 4, 0, 0, 32, 126, 255, 511]
theorem euclid_clear.tab15 : rtab .any (opsOf Try.f40 15) = euclid_clear.T15 := by kernel_rfl
theorem euclid_clear.bits15 : waitsOk euclid_clear.T15.2 euclid_clear.B15 = true := by kernel_rfl
def euclid_clear.T17 : Bool × List (List Nat × List Nat) := (true, [([], []), ([], []), ([0, 0], [0]), ([1, 2, 0, 1, 2], [1])])
def euclid_clear.B17 : List Nat := [0, 0, 1, 7]
theorem euclid_clear.tab17 : rtab .any (opsOf Try.f40 17) = euclid_clear.T17 := by kernel_rfl
theorem euclid_clear.bits17 : waitsOk euclid_clear.T17.2 euclid_clear.B17 = true := by kernel_rfl
set_option maxHeartbeats 8000000 in
set_option maxRecDepth 100000 in
theorem euclid_clear.calls (k : Nat) (n0 : Nat) (M : Nat → Prop) (gW : Nat) (vv : Value) (Ap : Option Addr) (cp : Nat) (ps : List S96) (err : Int) (f : S41) (A0 : Option Addr) (c0 : Nat) (r : S88) (B0 : Option Addr) (d0 : Nat) (f' : S41) (r' : S88) (er : Int) (w : World)
    (hM : ∀ b, M b → b < w.heap.size) (hMW : M gW) (hn0 : n0 ≤ w.heap.size)
    (hW : w.heap[gW]? = some (.cells #[vv, .slice Ap ps.length cp, .int .i64 err] 86 (0, 0)))
    (hp : Kd.V k96 96 w 0 (fun b => ¬ M b) (.slice Ap ps.length cp) ps) (hf : Kd.V k44 44 w 0 (fun b => ¬ M b) (.slice A0 f.f1.length c0) f.f1) (hr : Kd.R (Kd.int .i64) 2 w n0 (fun b => ¬ M b) (.slice B0 r.f0.length d0) r.f0)
    (h : euclid_clear.f k ps err f r = some (f', r', er)) :
    Calls Try.prog 40 #[.pointer (some ⟨gW, 0, none⟩), .agg #[.int .i64 f.f0, .slice A0 f.f1.length c0], .agg #[.slice B0 r.f0.length d0, .int .i64 r.f1, .bool r.f2]] w fun e w' => ∃ v u, e = .returned (.tuple #[.agg #[.int .i64 f'.f0, v], .agg #[u, .int .i64 r'.f1, .bool r'.f2]]) ∧ ((v = .slice A0 f.f1.length c0 ∧ f' = f) ∨ Kd.R k44 44 w' w.heap.size (fun b => w.heap.size ≤ b) v f'.f1) ∧ Kd.V k44 44 w' 0 (fun b => ¬ M b) v f'.f1 ∧ Kd.R (Kd.int .i64) 2 w' n0 (fun b => ¬ M b) u r'.f0 ∧ Fs (fun b => b = gW) w w' ∧ w'.heap[gW]? = some (.cells #[vv, .slice Ap ps.length cp, .int .i64 er] 86 (0, 0)) := by
  have hu41 := Try.underlying41
  have hu88 := Try.underlying88
  have hu96 := Try.underlying96
  have hu86 := Try.underlying86
  have hlen : ps.length ≤ 1000000 := by
    rcases Nat.lt_or_ge 1000000 ps.length with h1 | h1
    · rw [euclid_clear.f, if_neg (by omega)] at h; cases h
    · exact h1
  rw [euclid_clear.f, if_pos hlen] at h
  have H := Aside0.mk h
  have HM := Aside0.mk (And.intro hM (And.intro hMW hn0))
  have HL := Aside0.mk hlen
  have CX := Aside0.mk (Cx.start (w := w) (S := (fun b => b = gW)) (M := M) (T := (TB gW (.cells #[vv, .slice Ap ps.length cp, .int .i64 (err)] 86 (0, 0))))
    (P := (PA (PA (PV k96 96 (.slice Ap ps.length cp) ps) (PV k44 44 (.slice A0 f.f1.length c0) f.f1)) (PA (PR (Kd.int .i64) 2 n0 (.slice B0 r.f0.length d0) r.f0) (PO (PS (.slice A0 f.f1.length c0) (.slice A0 f.f1.length c0) f f) (PR k44 44 w.heap.size (.slice A0 f.f1.length c0) f.f1)))))
    hM hW (tTB HM.out.2.1) ⟨⟨hp, hf⟩, hr, .inl ⟨rfl, rfl⟩⟩ (gPA (gPA gPV gPV) (gPA gPR (gPO gPS gPR))))
  clear h hM hMW hn0 hW hp hf hr hlen
  go_enter Try.func40, Try.ntmps40
  go_wp2_with (first
    | ((with_reducible refine gate_dst (N := 4) rfl ?_); refine boxA CX 41 #[.int .i64 f.f0, .slice A0 f.f1.length c0] ?_; clear CX; intro g4 w1 CX)
    | ((with_reducible refine gate_dst (N := 5) rfl ?_); refine boxA CX 88 #[.slice B0 r.f0.length d0, .int .i64 r.f1, .bool r.f2] ?_; clear CX; intro g5 w2 CX)
    | ((with_reducible refine gate_dst (N := 6) rfl ?_); refine boxA CX 41 #[.int .i64 0, .slice none 0 0] ?_; clear CX; intro g6 w3 CX)
    | ((with_reducible refine gate_dst (N := 7) rfl ?_); refine boxA CX 88 #[.slice none 0 0, .int .i64 0, .bool false] ?_; clear CX; intro g7 w4 CX; have hx_v : w4.cell? ⟨gW, 1, none⟩ = some (.slice Ap ps.length cp) := (blk_cell CX.out.t 1).trans rfl))
  clear hx_v
  go_loopg [22] ps.length (fun gk v22 w' => ∃ (x : Int) (zs rest : List S96) (F : S41) (R : S88) (Af Ar : Option Addr) (cf cr : Nat), v22 = .int .i64 x ∧ Aside0 (x = (zs.length : Int) ∧ gk = rest.length ∧ zs ++ rest = ps) ∧ Aside0 (euclid_clear.l0 k err rest F R = some (f', r', er)) ∧ Aside0 (Cx w (fun b => b = gW) M (fun _ => False) (TB gW (.cells #[vv, .slice Ap ps.length cp, .int .i64 (err)] 86 (0, 0))) (PA (PA (PV k96 96 (.slice Ap ps.length cp) ps) (PV k44 44 (.slice Af F.f1.length cf) F.f1)) (PA (PR (Kd.int .i64) 2 n0 (.slice Ar R.f0.length cr) R.f0) (PO (PS (.slice Af F.f1.length cf) (.slice A0 f.f1.length c0) F f) (PR k44 44 w.heap.size (.slice Af F.f1.length cf) F.f1)))) w' [(g7, #[.slice none 0 0, .int .i64 0, .bool false], 88), (g6, #[.int .i64 0, .slice none 0 0], 41), (g5, #[.slice Ar R.f0.length cr, .int .i64 R.f1, .bool R.f2], 88), (g4, #[.int .i64 F.f0, .slice Af F.f1.length cf], 41)]))
  case atStart => exact ⟨0, [], ps, f, r, A0, B0, c0, d0, rfl, ⟨rfl, rfl, rfl⟩, H, CX⟩
  case round =>
    clear CX H
    obtain ⟨x, zs, rest, F, R, Af, Ar, cf, cr, rfl, HI, HR, CX⟩ := hrel
    have hll : zs.length + rest.length = ps.length := by rw [← List.length_append, HI.out.2.2]
    have HLL := Aside0.mk hll
    clear hll
    cases rest with
    | nil =>
      have c1 : decide (x < (ps.length : Int)) = false := decide_eq_false (by have := HI.out.1; have h2 := HLL.out; rw [List.length_nil] at h2; omega)
      obtain ⟨rfl, rfl, rfl⟩ : F = f' ∧ R = r' ∧ err = er := by
        have := HR.out
        simp only [euclid_clear.l0, Option.some.injEq, Prod.mk.injEq] at this
        exact this
      go_wp2
      try go_wp2
      replace CX := Aside0.mk CX.out.drew1
      refine start_ (n := 4) (S := fun w' => w'.cell? ⟨g4, 0, none⟩ = some (.int .i64 F.f0) ∧ w'.cell? ⟨g4, 1, none⟩ = some (.slice Af F.f1.length cf) ∧ w'.cell? ⟨g5, 0, none⟩ = some (.slice Ar R.f0.length cr) ∧ w'.cell? ⟨g5, 1, none⟩ = some (.int .i64 R.f1) ∧ w'.cell? ⟨g5, 2, none⟩ = some (.bool R.f2)) (ds := []) (lB 4 0) (by kernel_rfl) rfl (by kernel_rfl) ⟨CX.out.cell 3 0 rfl rfl, CX.out.cell 3 1 rfl rfl, CX.out.cell 2 0 rfl rfl, CX.out.cell 2 1 rfl rfl, CX.out.cell 2 2 rfl rfl⟩ (fun hHeld => ?_); refine with_tabW euclid_clear.tab17 euclid_clear.bits17 (fun HT_ HW_ => ?_)
      generalize wr.drew = w5 at CX hHeld ⊢
      refine takeA 0 82 (lB 4 1) ?_
      refine takeA 1 83 (lB 4 3) ?_
      refine one_ (i := 2) (N := none) (lB 4 7) rfl rfl (one_of HT_.out (by kernel_rfl)) (by decide) (fun K hK => ?_)
      refine skipW CX Cx.wh1n2 (st41 (CX.out.blk 1 rfl)) ?_; clear CX; intro w6 CX
      refine hK.out _ _ ⟨CX.out.cell 3 0 rfl rfl, CX.out.cell 3 1 rfl rfl, CX.out.cell 2 0 rfl rfl, CX.out.cell 2 1 rfl rfl, CX.out.cell 2 2 rfl rfl⟩ (fun hHeld => ?_)
      clear hK K
      refine one_ (i := 3) (N := none) (lB 4 15) rfl rfl (one_of HT_.out (by kernel_rfl)) (by decide) (fun K hK => ?_)
      refine skipW CX Cx.wh0n3 (st88 (CX.out.blk 0 rfl)) ?_; clear CX; intro w7 CX
      refine hK.out _ _ ⟨CX.out.cell 3 0 rfl rfl, CX.out.cell 3 1 rfl rfl, CX.out.cell 2 0 rfl rfl, CX.out.cell 2 1 rfl rfl, CX.out.cell 2 2 rfl rfl⟩ (fun hHeld => ?_)
      clear hK K
      refine done_ (done_of HT_.out (by kernel_rfl)) ?_
      try go_wp2
      refine bodyPost_ret (v := .tuple #[.agg #[.int .i64 F.f0, .slice Af F.f1.length cf], .agg #[.slice Ar R.f0.length cr, .int .i64 R.f1, .bool R.f2]]) ?hres ?hdef ?_
      case hdef => rfl
      case hres => exact results_list (rs := [.cell 6 41, .cell 7 88]) (vs := [.agg #[.int .i64 F.f0, .slice Af F.f1.length cf], .agg #[.slice Ar R.f0.length cr, .int .i64 R.f1, .bool R.f2]]) rfl (show (2 : Nat) ≠ 1 from by decide) (Vals.cell g6 41 #[.int .i64 F.f0, .slice Af F.f1.length cf] (0, 0) _ rfl (CX.out.blk 1 rfl) Try.underlying41 rfl (by kernel_rfl) (Vals.cell g7 88 #[.slice Ar R.f0.length cr, .int .i64 R.f1, .bool R.f2] (0, 0) _ rfl (CX.out.blk 0 rfl) Try.underlying88 rfl (by kernel_rfl) .nil))
      have hsub : ∀ b, M b → Nx M (fun _ => False) [(g7, #[.slice Ar R.f0.length cr, .int .i64 R.f1, .bool R.f2], 88), (g6, #[.int .i64 F.f0, .slice Af F.f1.length cf], 41), (g5, #[.slice Ar R.f0.length cr, .int .i64 R.f1, .bool R.f2], 88), (g4, #[.int .i64 F.f0, .slice Af F.f1.length cf], 41)] b := fun b hb => .inl hb
      refine ⟨_, _, rfl, Or.imp (fun h => ⟨h.1, h.2⟩) (fun h => Kd.R_mono (Kd.R_bound h) (fun _ hk => hk.2.1)) CX.out.p.2.2, Kd.V_mono CX.out.p.1.2 (fun b hb hm => hb (.inl hm)), Kd.R_mono CX.out.p.2.1 (fun b hb hm => hb (.inl hm)), CX.out.fs, CX.out.t⟩
    | cons p rest =>
      obtain ⟨gko, rfl⟩ : ∃ gko, gk = gko + 1 := ⟨gk - 1, by have := HI.out.2.1; rw [List.length_cons] at this; omega⟩
      have hR := HR.out
      simp only [euclid_clear.l0] at hR
      have hx0 : 0 ≤ x := by have := HI.out.1; omega
      have hx1 : x < (ps.length : Int) := by have := HI.out.1; have h2 := HLL.out; rw [List.length_cons] at h2; omega
      have c1 : decide (x < (ps.length : Int)) = true := decide_eq_true hx1
      obtain ⟨adp, cs96, e2, _, hK, hcell, _⟩ := Kd.F_get (Kd.V_F CX.out.p.1.1) z96 x hx0 hx1
      have hgp : ps.getD x.toNat z96 = p := by rw [← HI.out.2.2, HI.out.1]; simp
      rw [hgp] at hK
      obtain ⟨A3, c3, rfl, hl3, hF3⟩ := k96_openF hK
      subst e2
      have hn0 : wr.cell? (adp.add (x.toNat * 6)) = some (.int .i64 p.f0) := hcell 0 _ rfl
      have hn1 : wr.cell? ⟨(adp.add (x.toNat * 6)).block, (adp.add (x.toNat * 6)).off + 1, none⟩ = some (.int .i64 p.f1) := by rw [← add_field _ _ 1 (by omega)]; exact hcell 1 _ rfl
      have hn2 : wr.cell? ⟨(adp.add (x.toNat * 6)).block, (adp.add (x.toNat * 6)).off + 2, none⟩ = some (.int .i64 p.f2) := by rw [← add_field _ _ 2 (by omega)]; exact hcell 2 _ rfl
      have hn3 : wr.cell? ⟨(adp.add (x.toNat * 6)).block, (adp.add (x.toNat * 6)).off + 3, none⟩ = some (.slice A3 p.f3.f0.length c3) := by rw [← add_field _ _ 3 (by omega)]; exact hcell 3 _ rfl
      have hn4 : wr.cell? ⟨(adp.add (x.toNat * 6)).block, (adp.add (x.toNat * 6)).off + 4, none⟩ = some (.int .i64 p.f3.f1) := by rw [← add_field _ _ 4 (by omega)]; exact hcell 4 _ rfl
      have hn5 : wr.cell? ⟨(adp.add (x.toNat * 6)).block, (adp.add (x.toNat * 6)).off + 5, none⟩ = some (.bool p.f3.f2) := by rw [← add_field _ _ 5 (by omega)]; exact hcell 5 _ rfl
      replace CX := Aside0.mk (CX.out.withP (P' := PA (PA (PA (PV k96 96 (.slice (some adp) ps.length cp) ps) (PV k44 44 (.slice Af F.f1.length cf) F.f1)) (PA (PR (Kd.int .i64) 2 n0 (.slice Ar R.f0.length cr) R.f0) (PO (PS (.slice Af F.f1.length cf) (.slice A0 f.f1.length c0) F f) (PR k44 44 w.heap.size (.slice Af F.f1.length cf) F.f1)))) (PV (Kd.int .i64) 2 (.slice A3 p.f3.f0.length c3) p.f3.f0)) ⟨CX.out.p, Kd.V_mk hl3 hF3⟩ (gPA (gPA (gPA gPV gPV) (gPA gPR (gPO gPS gPR))) gPV))
      clear hK hcell hl3 hF3 hgp
      have hp1 := eq_true hx0
      have hp2 := eq_true hx1
      clear hx0 hx1
      obtain ⟨c, hc, hR⟩ := Option.bind_eq_some_iff.1 hR
      have HC := Aside0.mk hc
      clear hc
      by_cases hc0 : c = 0
      · have hz1 : (c == 0) = true := by rw [hc0]; rfl
        rw [if_pos hc0] at hR
        have HR2 := Aside0.mk hR
        clear hR HR
        go_wp2_with (first
          | ((with_reducible refine gate_dst (N := 9) rfl ?_); refine boxB CX 96 #[.int .i64 0, .int .i64 0, .int .i64 0, .slice none 0 0, .int .i64 0, .bool false] ?_; clear CX; intro g9 w5 CX hb_; replace hn0 := zcm hb_ hn0; replace hn1 := zcm hb_ hn1; replace hn2 := zcm hb_ hn2; replace hn3 := zcm hb_ hn3; replace hn4 := zcm hb_ hn4; replace hn5 := zcm hb_ hn5; clear hb_)
          | ((with_reducible refine gate_store (t := 96) (p := 9) rfl ?_); refine storeW CX (Cx.wh0n6) (st96 (CX.out.blk 0 rfl)) ?_; clear CX; intro w6 CX; clear hn0 hn1 hn2 hn3 hn4 hn5; have hc_g4_0 := ze0 (CX.out.blk 4 rfl); have hc_g4_1 := ze1 (CX.out.blk 4 rfl); have hc_g9_0 := ze0 (CX.out.blk 0 rfl))
          | ((go_at_call 57); refine (lin_By.calls k F.f0 Af cf F.f1 p.f0 c w6 (Kd.V_reads' CX.out.p.1.1.2).2.2 (Kd.V_reads' CX.out.p.1.1.2).2.1 HC.out).mono ?_; rintro e w7 ⟨rfl, hb⟩; replace CX := Aside0.mk (CX.out.call hb); clear hb; clear hc_g4_0 hc_g4_1 hc_g9_0; have hc_g9_1 := ze1 (CX.out.blk 0 rfl); have hc_g9_2 := ze2 (CX.out.blk 0 rfl)))
        go_roundg gko
        case measure => omega
        case rel =>
          have CX3 := (CX.out.withP (P' := (PA (PA (PV k96 96 (.slice (some adp) ps.length cp) ps) (PV k44 44 (.slice Af F.f1.length cf) F.f1)) (PA (PR (Kd.int .i64) 2 n0 (.slice Ar R.f0.length cr) R.f0) (PO (PS (.slice Af F.f1.length cf) (.slice A0 f.f1.length c0) F f) (PR k44 44 w.heap.size (.slice Af F.f1.length cf) F.f1))))) CX.out.p.1 (gPA (gPA gPV gPV) (gPA gPR (gPO gPS gPR)))).drop 1
          refine ⟨_, zs ++ [p], rest, F, R, Af, Ar, cf, cr, rfl, ⟨?_, ?_, ?_⟩, HR2, ⟨CX3⟩⟩
          · have h1 := HI.out.1; have h2 := HLL.out; have h3 := HL.out; rw [List.length_cons] at h2; rw [List.length_append, List.length_singleton]; unfold wrap64; omega
          · have h1 := HI.out.2.1; rw [List.length_cons] at h1; omega
          · rw [List.append_assoc]; exact HI.out.2.2
      · have hz1 : (c == 0) = false := beq_eq_false_iff_ne.mpr hc0
        rw [if_neg hc0] at hR
        obtain ⟨⟨d, dok⟩, hd, hR⟩ := Option.bind_eq_some_iff.1 hR
        obtain ⟨⟨m, mok⟩, hm, hR⟩ := Option.bind_eq_some_iff.1 hR
        have HD := Aside0.mk hd
        have HMn := Aside0.mk hm
        clear hd hm hc0
        by_cases hok : (dok && mok) = true
        case neg =>
          rw [if_neg hok] at hR
          simp only [Option.some.injEq, Prod.mk.injEq] at hR
          obtain ⟨rfl, rfl, rfl⟩ := hR
          have hnot : dok = false ∨ (dok = true ∧ mok = false) := by
            cases dok with
            | false => exact .inl rfl
            | true => cases mok with
              | false => exact .inr ⟨rfl, rfl⟩
              | true => exact absurd rfl hok
          clear hok HR
          rcases hnot with hno | ⟨hno, hnm⟩
          · subst hno
            go_wp2_with (first
              | ((with_reducible refine gate_dst (N := 9) rfl ?_); refine boxB CX 96 #[.int .i64 0, .int .i64 0, .int .i64 0, .slice none 0 0, .int .i64 0, .bool false] ?_; clear CX; intro g9 w5 CX hb_; replace hn0 := zcm hb_ hn0; replace hn1 := zcm hb_ hn1; replace hn2 := zcm hb_ hn2; replace hn3 := zcm hb_ hn3; replace hn4 := zcm hb_ hn4; replace hn5 := zcm hb_ hn5; clear hb_)
              | ((with_reducible refine gate_store (t := 96) (p := 9) rfl ?_); refine storeW CX (Cx.wh0n6) (st96 (CX.out.blk 0 rfl)) ?_; clear CX; intro w6 CX; clear hn0 hn1 hn2 hn3 hn4 hn5; have hc_g4_0 := ze0 (CX.out.blk 4 rfl); have hc_g4_1 := ze1 (CX.out.blk 4 rfl); have hc_g9_0 := ze0 (CX.out.blk 0 rfl))
              | ((go_at_call 57); refine (lin_By.calls k F.f0 Af cf F.f1 p.f0 c w6 (Kd.V_reads' CX.out.p.1.1.2).2.2 (Kd.V_reads' CX.out.p.1.1.2).2.1 HC.out).mono ?_; rintro e w7 ⟨rfl, hb⟩; replace CX := Aside0.mk (CX.out.call hb); clear hb; clear hc_g4_0 hc_g4_1 hc_g9_0; have hc_g9_1 := ze1 (CX.out.blk 0 rfl); have hc_g9_2 := ze2 (CX.out.blk 0 rfl))
              | ((go_at_call 58); refine (num_Div.calls p.f2 p.f1 _ _ w7 HD.out).mono ?_; rintro e w8 ⟨rfl, hb⟩; replace CX := Aside0.mk (CX.out.drawn hb); clear hb; clear hc_g9_1 hc_g9_2)
              | ((go_at_call 59); refine (num_Neg.calls d _ _ w8 HMn.out).mono ?_; rintro e w9 ⟨rfl, hb⟩; replace CX := Aside0.mk (CX.out.drawn hb); clear hb; have hc_g4_0 := ze0 (CX.out.blk 4 rfl); have hc_g4_1 := ze1 (CX.out.blk 4 rfl); have hc_g9_0 := ze0 (CX.out.blk 0 rfl))
              | ((with_reducible refine gate_store (t := 26) (p := 53) rfl ?_); have hq_0 : w9.cell? ⟨gW, 2, none⟩ = some (.int .i64 (err)) := (blk_cell CX.out.t 2).trans rfl; have hz_0 : w9.frozen? ⟨gW, 2, none⟩ = false := blk_frozen CX.out.t 2; refine store_event (t := 26) (p := 53) (v := ?vo_1) (w1 := (w9.setCell ⟨gW, 2, none⟩ (.int .i64 (5)))) ?hg ?ho ?hn ?hr ?_; (case ho => rfl); (case hg => rfl); (case hn => rfl); (case hr => first | (go_simp; done) | (go_simp; rfl)); intro w10 hw; replace CX := Aside0.mk (CX.out.turn (Fs.set _ gW 2 (.int .i64 (5))) (fun b e => by subst e; exact HM.out.2.1) (fun _ h _ => h) (T' := (TB gW (.cells #[vv, .slice (some adp) ps.length cp, .int .i64 (5)] 86 (0, 0)))) (blk_put CX.out.t 2 _ rfl) (tTB HM.out.2.1)); rw [← hw] at CX; clear hw hq_0 hz_0; clear hc_g4_0 hc_g4_1 hc_g9_0))
            replace CX := Aside0.mk (CX.out.withP (P' := (PA (PA (PV k96 96 (.slice (some adp) ps.length cp) ps) (PV k44 44 (.slice Af F.f1.length cf) F.f1)) (PA (PR (Kd.int .i64) 2 n0 (.slice Ar R.f0.length cr) R.f0) (PO (PS (.slice Af F.f1.length cf) (.slice A0 f.f1.length c0) F f) (PR k44 44 w.heap.size (.slice Af F.f1.length cf) F.f1))))) CX.out.p.1 (gPA (gPA gPV gPV) (gPA gPR (gPO gPS gPR))))
            try go_wp2
            replace CX := Aside0.mk CX.out.drew1
            refine start_ (n := 4) (S := fun w' => w'.cell? ⟨g4, 0, none⟩ = some (.int .i64 F.f0) ∧ w'.cell? ⟨g4, 1, none⟩ = some (.slice Af F.f1.length cf) ∧ w'.cell? ⟨g5, 0, none⟩ = some (.slice Ar R.f0.length cr) ∧ w'.cell? ⟨g5, 1, none⟩ = some (.int .i64 R.f1) ∧ w'.cell? ⟨g5, 2, none⟩ = some (.bool R.f2)) (ds := []) (lB 4 0) (by kernel_rfl) rfl (by kernel_rfl) ⟨CX.out.cell 4 0 rfl rfl, CX.out.cell 4 1 rfl rfl, CX.out.cell 3 0 rfl rfl, CX.out.cell 3 1 rfl rfl, CX.out.cell 3 2 rfl rfl⟩ (fun hHeld => ?_); refine with_tabW euclid_clear.tab10 euclid_clear.bits10 (fun HT_ HW_ => ?_)
            generalize w10.drew = w11 at CX hHeld ⊢
            refine takeA 0 54 (lB 4 1) ?_
            refine takeA 1 55 (lB 4 3) ?_
            refine one_ (i := 2) (N := none) (lB 4 7) rfl rfl (one_of HT_.out (by kernel_rfl)) (by decide) (fun K hK => ?_)
            refine skipW CX Cx.wh2n2 (st41 (CX.out.blk 2 rfl)) ?_; clear CX; intro w12 CX
            refine hK.out _ _ ⟨CX.out.cell 4 0 rfl rfl, CX.out.cell 4 1 rfl rfl, CX.out.cell 3 0 rfl rfl, CX.out.cell 3 1 rfl rfl, CX.out.cell 3 2 rfl rfl⟩ (fun hHeld => ?_)
            clear hK K
            refine one_ (i := 3) (N := none) (lB 4 15) rfl rfl (one_of HT_.out (by kernel_rfl)) (by decide) (fun K hK => ?_)
            refine skipW CX Cx.wh1n3 (st88 (CX.out.blk 1 rfl)) ?_; clear CX; intro w13 CX
            refine hK.out _ _ ⟨CX.out.cell 4 0 rfl rfl, CX.out.cell 4 1 rfl rfl, CX.out.cell 3 0 rfl rfl, CX.out.cell 3 1 rfl rfl, CX.out.cell 3 2 rfl rfl⟩ (fun hHeld => ?_)
            clear hK K
            refine done_ (done_of HT_.out (by kernel_rfl)) ?_
            try go_wp2
            refine bodyPost_ret (v := .tuple #[.agg #[.int .i64 F.f0, .slice Af F.f1.length cf], .agg #[.slice Ar R.f0.length cr, .int .i64 R.f1, .bool R.f2]]) ?hres ?hdef ?_
            case hdef => rfl
            case hres => exact results_list (rs := [.cell 6 41, .cell 7 88]) (vs := [.agg #[.int .i64 F.f0, .slice Af F.f1.length cf], .agg #[.slice Ar R.f0.length cr, .int .i64 R.f1, .bool R.f2]]) rfl (show (2 : Nat) ≠ 1 from by decide) (Vals.cell g6 41 #[.int .i64 F.f0, .slice Af F.f1.length cf] (0, 0) _ rfl (CX.out.blk 2 rfl) Try.underlying41 rfl (by kernel_rfl) (Vals.cell g7 88 #[.slice Ar R.f0.length cr, .int .i64 R.f1, .bool R.f2] (0, 0) _ rfl (CX.out.blk 1 rfl) Try.underlying88 rfl (by kernel_rfl) .nil))
            have hsub : ∀ b, M b → Nx M (fun _ => False) [(g9, #[.int .i64 p.f0, .int .i64 p.f1, .int .i64 p.f2, .slice A3 p.f3.f0.length c3, .int .i64 p.f3.f1, .bool p.f3.f2], 96), (g7, #[.slice Ar R.f0.length cr, .int .i64 R.f1, .bool R.f2], 88), (g6, #[.int .i64 F.f0, .slice Af F.f1.length cf], 41), (g5, #[.slice Ar R.f0.length cr, .int .i64 R.f1, .bool R.f2], 88), (g4, #[.int .i64 F.f0, .slice Af F.f1.length cf], 41)] b := fun b hb => .inl hb
            refine ⟨_, _, rfl, Or.imp (fun h => ⟨h.1, h.2⟩) (fun h => Kd.R_mono (Kd.R_bound h) (fun _ hk => hk.2.1)) CX.out.p.2.2, Kd.V_mono CX.out.p.1.2 (fun b hb hm => hb (.inl hm)), Kd.R_mono CX.out.p.2.1 (fun b hb hm => hb (.inl hm)), CX.out.fs, CX.out.t⟩
          · subst hno
            subst hnm
            go_wp2_with (first
              | ((with_reducible refine gate_dst (N := 9) rfl ?_); refine boxB CX 96 #[.int .i64 0, .int .i64 0, .int .i64 0, .slice none 0 0, .int .i64 0, .bool false] ?_; clear CX; intro g9 w5 CX hb_; replace hn0 := zcm hb_ hn0; replace hn1 := zcm hb_ hn1; replace hn2 := zcm hb_ hn2; replace hn3 := zcm hb_ hn3; replace hn4 := zcm hb_ hn4; replace hn5 := zcm hb_ hn5; clear hb_)
              | ((with_reducible refine gate_store (t := 96) (p := 9) rfl ?_); refine storeW CX (Cx.wh0n6) (st96 (CX.out.blk 0 rfl)) ?_; clear CX; intro w6 CX; clear hn0 hn1 hn2 hn3 hn4 hn5; have hc_g4_0 := ze0 (CX.out.blk 4 rfl); have hc_g4_1 := ze1 (CX.out.blk 4 rfl); have hc_g9_0 := ze0 (CX.out.blk 0 rfl))
              | ((go_at_call 57); refine (lin_By.calls k F.f0 Af cf F.f1 p.f0 c w6 (Kd.V_reads' CX.out.p.1.1.2).2.2 (Kd.V_reads' CX.out.p.1.1.2).2.1 HC.out).mono ?_; rintro e w7 ⟨rfl, hb⟩; replace CX := Aside0.mk (CX.out.call hb); clear hb; clear hc_g4_0 hc_g4_1 hc_g9_0; have hc_g9_1 := ze1 (CX.out.blk 0 rfl); have hc_g9_2 := ze2 (CX.out.blk 0 rfl))
              | ((go_at_call 58); refine (num_Div.calls p.f2 p.f1 _ _ w7 HD.out).mono ?_; rintro e w8 ⟨rfl, hb⟩; replace CX := Aside0.mk (CX.out.drawn hb); clear hb; clear hc_g9_1 hc_g9_2)
              | ((go_at_call 59); refine (num_Neg.calls d _ _ w8 HMn.out).mono ?_; rintro e w9 ⟨rfl, hb⟩; replace CX := Aside0.mk (CX.out.drawn hb); clear hb; have hc_g4_0 := ze0 (CX.out.blk 4 rfl); have hc_g4_1 := ze1 (CX.out.blk 4 rfl); have hc_g9_0 := ze0 (CX.out.blk 0 rfl))
              | ((with_reducible refine gate_store (t := 26) (p := 53) rfl ?_); have hq_0 : w9.cell? ⟨gW, 2, none⟩ = some (.int .i64 (err)) := (blk_cell CX.out.t 2).trans rfl; have hz_0 : w9.frozen? ⟨gW, 2, none⟩ = false := blk_frozen CX.out.t 2; refine store_event (t := 26) (p := 53) (v := ?vo_2) (w1 := (w9.setCell ⟨gW, 2, none⟩ (.int .i64 (5)))) ?hg ?ho ?hn ?hr ?_; (case ho => rfl); (case hg => rfl); (case hn => rfl); (case hr => first | (go_simp; done) | (go_simp; rfl)); intro w10 hw; replace CX := Aside0.mk (CX.out.turn (Fs.set _ gW 2 (.int .i64 (5))) (fun b e => by subst e; exact HM.out.2.1) (fun _ h _ => h) (T' := (TB gW (.cells #[vv, .slice (some adp) ps.length cp, .int .i64 (5)] 86 (0, 0)))) (blk_put CX.out.t 2 _ rfl) (tTB HM.out.2.1)); rw [← hw] at CX; clear hw hq_0 hz_0; clear hc_g4_0 hc_g4_1 hc_g9_0))
            replace CX := Aside0.mk (CX.out.withP (P' := (PA (PA (PV k96 96 (.slice (some adp) ps.length cp) ps) (PV k44 44 (.slice Af F.f1.length cf) F.f1)) (PA (PR (Kd.int .i64) 2 n0 (.slice Ar R.f0.length cr) R.f0) (PO (PS (.slice Af F.f1.length cf) (.slice A0 f.f1.length c0) F f) (PR k44 44 w.heap.size (.slice Af F.f1.length cf) F.f1))))) CX.out.p.1 (gPA (gPA gPV gPV) (gPA gPR (gPO gPS gPR))))
            try go_wp2
            replace CX := Aside0.mk CX.out.drew1
            refine start_ (n := 4) (S := fun w' => w'.cell? ⟨g4, 0, none⟩ = some (.int .i64 F.f0) ∧ w'.cell? ⟨g4, 1, none⟩ = some (.slice Af F.f1.length cf) ∧ w'.cell? ⟨g5, 0, none⟩ = some (.slice Ar R.f0.length cr) ∧ w'.cell? ⟨g5, 1, none⟩ = some (.int .i64 R.f1) ∧ w'.cell? ⟨g5, 2, none⟩ = some (.bool R.f2)) (ds := []) (lB 4 0) (by kernel_rfl) rfl (by kernel_rfl) ⟨CX.out.cell 4 0 rfl rfl, CX.out.cell 4 1 rfl rfl, CX.out.cell 3 0 rfl rfl, CX.out.cell 3 1 rfl rfl, CX.out.cell 3 2 rfl rfl⟩ (fun hHeld => ?_); refine with_tabW euclid_clear.tab10 euclid_clear.bits10 (fun HT_ HW_ => ?_)
            generalize w10.drew = w11 at CX hHeld ⊢
            refine takeA 0 54 (lB 4 1) ?_
            refine takeA 1 55 (lB 4 3) ?_
            refine one_ (i := 2) (N := none) (lB 4 7) rfl rfl (one_of HT_.out (by kernel_rfl)) (by decide) (fun K hK => ?_)
            refine skipW CX Cx.wh2n2 (st41 (CX.out.blk 2 rfl)) ?_; clear CX; intro w12 CX
            refine hK.out _ _ ⟨CX.out.cell 4 0 rfl rfl, CX.out.cell 4 1 rfl rfl, CX.out.cell 3 0 rfl rfl, CX.out.cell 3 1 rfl rfl, CX.out.cell 3 2 rfl rfl⟩ (fun hHeld => ?_)
            clear hK K
            refine one_ (i := 3) (N := none) (lB 4 15) rfl rfl (one_of HT_.out (by kernel_rfl)) (by decide) (fun K hK => ?_)
            refine skipW CX Cx.wh1n3 (st88 (CX.out.blk 1 rfl)) ?_; clear CX; intro w13 CX
            refine hK.out _ _ ⟨CX.out.cell 4 0 rfl rfl, CX.out.cell 4 1 rfl rfl, CX.out.cell 3 0 rfl rfl, CX.out.cell 3 1 rfl rfl, CX.out.cell 3 2 rfl rfl⟩ (fun hHeld => ?_)
            clear hK K
            refine done_ (done_of HT_.out (by kernel_rfl)) ?_
            try go_wp2
            refine bodyPost_ret (v := .tuple #[.agg #[.int .i64 F.f0, .slice Af F.f1.length cf], .agg #[.slice Ar R.f0.length cr, .int .i64 R.f1, .bool R.f2]]) ?hres ?hdef ?_
            case hdef => rfl
            case hres => exact results_list (rs := [.cell 6 41, .cell 7 88]) (vs := [.agg #[.int .i64 F.f0, .slice Af F.f1.length cf], .agg #[.slice Ar R.f0.length cr, .int .i64 R.f1, .bool R.f2]]) rfl (show (2 : Nat) ≠ 1 from by decide) (Vals.cell g6 41 #[.int .i64 F.f0, .slice Af F.f1.length cf] (0, 0) _ rfl (CX.out.blk 2 rfl) Try.underlying41 rfl (by kernel_rfl) (Vals.cell g7 88 #[.slice Ar R.f0.length cr, .int .i64 R.f1, .bool R.f2] (0, 0) _ rfl (CX.out.blk 1 rfl) Try.underlying88 rfl (by kernel_rfl) .nil))
            have hsub : ∀ b, M b → Nx M (fun _ => False) [(g9, #[.int .i64 p.f0, .int .i64 p.f1, .int .i64 p.f2, .slice A3 p.f3.f0.length c3, .int .i64 p.f3.f1, .bool p.f3.f2], 96), (g7, #[.slice Ar R.f0.length cr, .int .i64 R.f1, .bool R.f2], 88), (g6, #[.int .i64 F.f0, .slice Af F.f1.length cf], 41), (g5, #[.slice Ar R.f0.length cr, .int .i64 R.f1, .bool R.f2], 88), (g4, #[.int .i64 F.f0, .slice Af F.f1.length cf], 41)] b := fun b hb => .inl hb
            refine ⟨_, _, rfl, Or.imp (fun h => ⟨h.1, h.2⟩) (fun h => Kd.R_mono (Kd.R_bound h) (fun _ hk => hk.2.1)) CX.out.p.2.2, Kd.V_mono CX.out.p.1.2 (fun b hb hm => hb (.inl hm)), Kd.R_mono CX.out.p.2.1 (fun b hb hm => hb (.inl hm)), CX.out.fs, CX.out.t⟩
        case pos =>
          rw [if_pos hok] at hR
          rw [Bool.and_eq_true] at hok
          obtain ⟨rfl, rfl⟩ := hok
          obtain ⟨⟨q1, q2, q3⟩, hq, hR⟩ := Option.bind_eq_some_iff.1 hR
          have HQ := Aside0.mk hq
          clear hq
          by_cases hq0 : q3 = 0
          case neg =>
            have hz2 : (q3 != 0) = true := bne_iff_ne.mpr hq0
            rw [if_neg hq0] at hR
            simp only [Option.some.injEq, Prod.mk.injEq] at hR
            obtain ⟨rfl, rfl, rfl⟩ := hR
            clear HR hq0
            go_wp2_with (first
              | ((with_reducible refine gate_dst (N := 9) rfl ?_); refine boxB CX 96 #[.int .i64 0, .int .i64 0, .int .i64 0, .slice none 0 0, .int .i64 0, .bool false] ?_; clear CX; intro g9 w5 CX hb_; replace hn0 := zcm hb_ hn0; replace hn1 := zcm hb_ hn1; replace hn2 := zcm hb_ hn2; replace hn3 := zcm hb_ hn3; replace hn4 := zcm hb_ hn4; replace hn5 := zcm hb_ hn5; clear hb_)
              | ((with_reducible refine gate_store (t := 96) (p := 9) rfl ?_); refine storeW CX (Cx.wh0n6) (st96 (CX.out.blk 0 rfl)) ?_; clear CX; intro w6 CX; clear hn0 hn1 hn2 hn3 hn4 hn5; have hc_g4_0 := ze0 (CX.out.blk 4 rfl); have hc_g4_1 := ze1 (CX.out.blk 4 rfl); have hc_g9_0 := ze0 (CX.out.blk 0 rfl))
              | ((go_at_call 57); refine (lin_By.calls k F.f0 Af cf F.f1 p.f0 c w6 (Kd.V_reads' CX.out.p.1.1.2).2.2 (Kd.V_reads' CX.out.p.1.1.2).2.1 HC.out).mono ?_; rintro e w7 ⟨rfl, hb⟩; replace CX := Aside0.mk (CX.out.call hb); clear hb; clear hc_g4_0 hc_g4_1 hc_g9_0; have hc_g9_1 := ze1 (CX.out.blk 0 rfl); have hc_g9_2 := ze2 (CX.out.blk 0 rfl))
              | ((go_at_call 58); refine (num_Div.calls p.f2 p.f1 _ _ w7 HD.out).mono ?_; rintro e w8 ⟨rfl, hb⟩; replace CX := Aside0.mk (CX.out.drawn hb); clear hb; clear hc_g9_1 hc_g9_2)
              | ((go_at_call 59); refine (num_Neg.calls d _ _ w8 HMn.out).mono ?_; rintro e w9 ⟨rfl, hb⟩; replace CX := Aside0.mk (CX.out.drawn hb); clear hb; have hc_g4_0 := ze0 (CX.out.blk 4 rfl); have hc_g4_1 := ze1 (CX.out.blk 4 rfl); have hc_g9_0 := ze0 (CX.out.blk 0 rfl))
              | ((go_at_call 60); refine (lin_Put.calls k F.f0 _ Af cf F.f1 p.f0 m (fun _ => True) none 0 [] q1 q2 q3 w9 CX.out.p.1.1.2 (Kd.V_nil _ _ _ _ _) HQ.out).mono ?_; rintro e w10 ⟨v, rfl, hr, hb⟩; have HF := Aside0.mk (CX.out.fresh hb.size hr); replace CX := Aside0.mk (CX.out.call hb); obtain ⟨Aq, cq, eq_⟩ := Kd.R_slice HF.out; subst eq_; replace CX := Aside0.mk (CX.out.withP (P' := PA (PA (PA (PA (PV k96 96 (.slice (some adp) ps.length cp) ps) (PV k44 44 (.slice Af F.f1.length cf) F.f1)) (PA (PR (Kd.int .i64) 2 n0 (.slice Ar R.f0.length cr) R.f0) (PO (PS (.slice Af F.f1.length cf) (.slice A0 f.f1.length c0) F f) (PR k44 44 w.heap.size (.slice Af F.f1.length cf) F.f1)))) (PV (Kd.int .i64) 2 (.slice A3 p.f3.f0.length c3) p.f3.f0)) (PR k44 44 w.heap.size (.slice Aq q2.length cq) q2)) ⟨CX.out.p, HF.out⟩ (gPA (gPA (gPA (gPA gPV gPV) (gPA gPR (gPO gPS gPR))) gPV) gPR)); clear hr hb HF; clear hc_g4_0 hc_g4_1 hc_g9_0)
              | ((with_reducible refine gate_dst (N := 15) rfl ?_); refine boxA CX 41 #[.int .i64 0, .slice none 0 0] ?_; clear CX; intro g15 w11 CX)
              | ((with_reducible refine gate_store (t := 41) (p := 15) rfl ?_); refine storeW CX (Cx.wh0n2) (st41 (CX.out.blk 0 rfl)) ?_; clear CX; intro w12 CX)
              | ((with_reducible refine gate_store (t := 26) (p := 70) rfl ?_); have hq_0 : w12.cell? ⟨gW, 2, none⟩ = some (.int .i64 (err)) := (blk_cell CX.out.t 2).trans rfl; have hz_0 : w12.frozen? ⟨gW, 2, none⟩ = false := blk_frozen CX.out.t 2; refine store_event (t := 26) (p := 70) (v := ?vo_3) (w1 := (w12.setCell ⟨gW, 2, none⟩ (.int .i64 (q3)))) ?hg ?ho ?hn ?hr ?_; (case ho => rfl); (case hg => rfl); (case hn => rfl); (case hr => first | (go_simp; done) | (go_simp; rfl)); intro w13 hw; replace CX := Aside0.mk (CX.out.turn (Fs.set _ gW 2 (.int .i64 (q3))) (fun b e => by subst e; exact HM.out.2.1) (fun _ h _ => h) (T' := (TB gW (.cells #[vv, .slice (some adp) ps.length cp, .int .i64 (q3)] 86 (0, 0)))) (blk_put CX.out.t 2 _ rfl) (tTB HM.out.2.1)); rw [← hw] at CX; clear hw hq_0 hz_0))
            replace CX := Aside0.mk (CX.out.withP (P' := (PA (PA (PV k96 96 (.slice (some adp) ps.length cp) ps) (PV k44 44 (.slice Af F.f1.length cf) F.f1)) (PA (PR (Kd.int .i64) 2 n0 (.slice Ar R.f0.length cr) R.f0) (PO (PS (.slice Af F.f1.length cf) (.slice A0 f.f1.length c0) F f) (PR k44 44 w.heap.size (.slice Af F.f1.length cf) F.f1))))) CX.out.p.1.1 (gPA (gPA gPV gPV) (gPA gPR (gPO gPS gPR))))
            try go_wp2
            replace CX := Aside0.mk CX.out.drew1
            refine start_ (n := 4) (S := fun w' => w'.cell? ⟨g4, 0, none⟩ = some (.int .i64 F.f0) ∧ w'.cell? ⟨g4, 1, none⟩ = some (.slice Af F.f1.length cf) ∧ w'.cell? ⟨g5, 0, none⟩ = some (.slice Ar R.f0.length cr) ∧ w'.cell? ⟨g5, 1, none⟩ = some (.int .i64 R.f1) ∧ w'.cell? ⟨g5, 2, none⟩ = some (.bool R.f2)) (ds := []) (lB 4 0) (by kernel_rfl) rfl (by kernel_rfl) ⟨CX.out.cell 5 0 rfl rfl, CX.out.cell 5 1 rfl rfl, CX.out.cell 4 0 rfl rfl, CX.out.cell 4 1 rfl rfl, CX.out.cell 4 2 rfl rfl⟩ (fun hHeld => ?_); refine with_tabW euclid_clear.tab14 euclid_clear.bits14 (fun HT_ HW_ => ?_)
            generalize w13.drew = w14 at CX hHeld ⊢
            refine takeA 0 71 (lB 4 1) ?_
            refine takeA 1 72 (lB 4 3) ?_
            refine one_ (i := 2) (N := none) (lB 4 7) rfl rfl (one_of HT_.out (by kernel_rfl)) (by decide) (fun K hK => ?_)
            refine skipW CX Cx.wh3n2 (st41 (CX.out.blk 3 rfl)) ?_; clear CX; intro w15 CX
            refine hK.out _ _ ⟨CX.out.cell 5 0 rfl rfl, CX.out.cell 5 1 rfl rfl, CX.out.cell 4 0 rfl rfl, CX.out.cell 4 1 rfl rfl, CX.out.cell 4 2 rfl rfl⟩ (fun hHeld => ?_)
            clear hK K
            refine one_ (i := 3) (N := none) (lB 4 15) rfl rfl (one_of HT_.out (by kernel_rfl)) (by decide) (fun K hK => ?_)
            refine skipW CX Cx.wh2n3 (st88 (CX.out.blk 2 rfl)) ?_; clear CX; intro w16 CX
            refine hK.out _ _ ⟨CX.out.cell 5 0 rfl rfl, CX.out.cell 5 1 rfl rfl, CX.out.cell 4 0 rfl rfl, CX.out.cell 4 1 rfl rfl, CX.out.cell 4 2 rfl rfl⟩ (fun hHeld => ?_)
            clear hK K
            refine done_ (done_of HT_.out (by kernel_rfl)) ?_
            try go_wp2
            refine bodyPost_ret (v := .tuple #[.agg #[.int .i64 F.f0, .slice Af F.f1.length cf], .agg #[.slice Ar R.f0.length cr, .int .i64 R.f1, .bool R.f2]]) ?hres ?hdef ?_
            case hdef => rfl
            case hres => exact results_list (rs := [.cell 6 41, .cell 7 88]) (vs := [.agg #[.int .i64 F.f0, .slice Af F.f1.length cf], .agg #[.slice Ar R.f0.length cr, .int .i64 R.f1, .bool R.f2]]) rfl (show (2 : Nat) ≠ 1 from by decide) (Vals.cell g6 41 #[.int .i64 F.f0, .slice Af F.f1.length cf] (0, 0) _ rfl (CX.out.blk 3 rfl) Try.underlying41 rfl (by kernel_rfl) (Vals.cell g7 88 #[.slice Ar R.f0.length cr, .int .i64 R.f1, .bool R.f2] (0, 0) _ rfl (CX.out.blk 2 rfl) Try.underlying88 rfl (by kernel_rfl) .nil))
            have hsub : ∀ b, M b → Nx M (fun _ => False) [(g15, #[.int .i64 q1, .slice Aq q2.length cq], 41), (g9, #[.int .i64 p.f0, .int .i64 p.f1, .int .i64 p.f2, .slice A3 p.f3.f0.length c3, .int .i64 p.f3.f1, .bool p.f3.f2], 96), (g7, #[.slice Ar R.f0.length cr, .int .i64 R.f1, .bool R.f2], 88), (g6, #[.int .i64 F.f0, .slice Af F.f1.length cf], 41), (g5, #[.slice Ar R.f0.length cr, .int .i64 R.f1, .bool R.f2], 88), (g4, #[.int .i64 F.f0, .slice Af F.f1.length cf], 41)] b := fun b hb => .inl hb
            refine ⟨_, _, rfl, Or.imp (fun h => ⟨h.1, h.2⟩) (fun h => Kd.R_mono (Kd.R_bound h) (fun _ hk => hk.2.1)) CX.out.p.2.2, Kd.V_mono CX.out.p.1.2 (fun b hb hm => hb (.inl hm)), Kd.R_mono CX.out.p.2.1 (fun b hb hm => hb (.inl hm)), CX.out.fs, CX.out.t⟩
          case pos =>
            have hz2 : (q3 != 0) = false := by rw [hq0]; rfl
            rw [if_pos hq0] at hR
            obtain ⟨⟨s1, s2, s3⟩, hs, hR⟩ := Option.bind_eq_some_iff.1 hR
            have HSs := Aside0.mk hs
            have HR2 := Aside0.mk hR
            clear hs hR HR
            go_wp2_with (first
              | ((with_reducible refine gate_dst (N := 9) rfl ?_); refine boxB CX 96 #[.int .i64 0, .int .i64 0, .int .i64 0, .slice none 0 0, .int .i64 0, .bool false] ?_; clear CX; intro g9 w5 CX hb_; replace hn0 := zcm hb_ hn0; replace hn1 := zcm hb_ hn1; replace hn2 := zcm hb_ hn2; replace hn3 := zcm hb_ hn3; replace hn4 := zcm hb_ hn4; replace hn5 := zcm hb_ hn5; clear hb_)
              | ((with_reducible refine gate_store (t := 96) (p := 9) rfl ?_); refine storeW CX (Cx.wh0n6) (st96 (CX.out.blk 0 rfl)) ?_; clear CX; intro w6 CX; clear hn0 hn1 hn2 hn3 hn4 hn5; have hc_g4_0 := ze0 (CX.out.blk 4 rfl); have hc_g4_1 := ze1 (CX.out.blk 4 rfl); have hc_g9_0 := ze0 (CX.out.blk 0 rfl))
              | ((go_at_call 57); refine (lin_By.calls k F.f0 Af cf F.f1 p.f0 c w6 (Kd.V_reads' CX.out.p.1.1.2).2.2 (Kd.V_reads' CX.out.p.1.1.2).2.1 HC.out).mono ?_; rintro e w7 ⟨rfl, hb⟩; replace CX := Aside0.mk (CX.out.call hb); clear hb; clear hc_g4_0 hc_g4_1 hc_g9_0; have hc_g9_1 := ze1 (CX.out.blk 0 rfl); have hc_g9_2 := ze2 (CX.out.blk 0 rfl))
              | ((go_at_call 58); refine (num_Div.calls p.f2 p.f1 _ _ w7 HD.out).mono ?_; rintro e w8 ⟨rfl, hb⟩; replace CX := Aside0.mk (CX.out.drawn hb); clear hb; clear hc_g9_1 hc_g9_2)
              | ((go_at_call 59); refine (num_Neg.calls d _ _ w8 HMn.out).mono ?_; rintro e w9 ⟨rfl, hb⟩; replace CX := Aside0.mk (CX.out.drawn hb); clear hb; have hc_g4_0 := ze0 (CX.out.blk 4 rfl); have hc_g4_1 := ze1 (CX.out.blk 4 rfl); have hc_g9_0 := ze0 (CX.out.blk 0 rfl))
              | ((go_at_call 60); refine (lin_Put.calls k F.f0 _ Af cf F.f1 p.f0 m (fun _ => True) none 0 [] q1 q2 q3 w9 CX.out.p.1.1.2 (Kd.V_nil _ _ _ _ _) HQ.out).mono ?_; rintro e w10 ⟨v, rfl, hr, hb⟩; have HF := Aside0.mk (CX.out.fresh hb.size hr); replace CX := Aside0.mk (CX.out.call hb); obtain ⟨Aq, cq, eq_⟩ := Kd.R_slice HF.out; subst eq_; replace CX := Aside0.mk (CX.out.withP (P' := PA (PA (PA (PA (PV k96 96 (.slice (some adp) ps.length cp) ps) (PV k44 44 (.slice Af F.f1.length cf) F.f1)) (PA (PR (Kd.int .i64) 2 n0 (.slice Ar R.f0.length cr) R.f0) (PO (PS (.slice Af F.f1.length cf) (.slice A0 f.f1.length c0) F f) (PR k44 44 w.heap.size (.slice Af F.f1.length cf) F.f1)))) (PV (Kd.int .i64) 2 (.slice A3 p.f3.f0.length c3) p.f3.f0)) (PR k44 44 w.heap.size (.slice Aq q2.length cq) q2)) ⟨CX.out.p, HF.out⟩ (gPA (gPA (gPA (gPA gPV gPV) (gPA gPR (gPO gPS gPR))) gPV) gPR)); clear hr hb HF; clear hc_g4_0 hc_g4_1 hc_g9_0)
              | ((with_reducible refine gate_dst (N := 15) rfl ?_); refine boxA CX 41 #[.int .i64 0, .slice none 0 0] ?_; clear CX; intro g15 w11 CX)
              | ((with_reducible refine gate_store (t := 41) (p := 15) rfl ?_); refine storeW CX (Cx.wh0n2) (st41 (CX.out.blk 0 rfl)) ?_; clear CX; intro w12 CX))
            replace CX := Aside0.mk CX.out.drew1
            refine start_ (n := 10) (S := fun w' => w'.cell? ⟨g15, 0, none⟩ = some (.int .i64 q1) ∧ w'.cell? ⟨g15, 1, none⟩ = some (.slice Aq q2.length cq) ∧ w'.cell? ⟨g9, 1, none⟩ = some (.int .i64 p.f1) ∧ w'.cell? ⟨g9, 3, none⟩ = some (.slice A3 p.f3.f0.length c3) ∧ w'.cell? ⟨g9, 4, none⟩ = some (.int .i64 p.f3.f1) ∧ w'.cell? ⟨g9, 5, none⟩ = some (.bool p.f3.f2) ∧ w'.cell? ⟨g5, 0, none⟩ = some (.slice Ar R.f0.length cr) ∧ w'.cell? ⟨g5, 1, none⟩ = some (.int .i64 R.f1) ∧ w'.cell? ⟨g5, 2, none⟩ = some (.bool R.f2)) (ds := [9]) (lB 10 0) (by kernel_rfl) rfl (by kernel_rfl) ⟨CX.out.cell 0 0 rfl rfl, CX.out.cell 0 1 rfl rfl, CX.out.cell 1 1 rfl rfl, CX.out.cell 1 3 rfl rfl, CX.out.cell 1 4 rfl rfl, CX.out.cell 1 5 rfl rfl, CX.out.cell 4 0 rfl rfl, CX.out.cell 4 1 rfl rfl, CX.out.cell 4 2 rfl rfl⟩ (fun hHeld => ?_); refine with_tabW euclid_clear.tab15 euclid_clear.bits15 (fun HT_ HW_ => ?_)
            generalize w12.drew = w13 at CX hHeld ⊢
            refine takeA 0 73 (lB 10 1) ?_
            refine takeA 1 74 (lB 10 3) ?_
            refine pureA 2 75 (lB 10 7) ?_
            refine takeA 3 76 (lB 10 15) ?_
            refine pureA 4 77 (lB 10 31) ?_
            refine pureA 5 78 (lB 10 63) ?_
            refine takeA 6 79 (lB 10 127) ?_
            refine one_ (i := 7) (N := some 80) (lB 10 255) rfl rfl (one_of HT_.out (by kernel_rfl)) (by decide) (fun K hK => ?_)
            refine call_ 61 #[.agg #[.slice Ar R.f0.length cr, .int .i64 R.f1, .bool R.f2], .agg #[.slice A3 p.f3.f0.length c3, .int .i64 p.f3.f1, .bool p.f3.f2], .int .i64 c, .int .i64 p.f1] (by rfl) rfl ?hrun_ ?_
            case hrun_ => first | (go_simp; done) | (go_simp; rfl)
            refine (euclid_row_less.calls k Ar cr R.f0 R.f1 R.f2 A3 c3 p.f3.f0 p.f3.f1 p.f3.f2 c p.f1 s1 s2 s3 w13 (Kd.R_reads' CX.out.p.1.1.2.1).2.2 (Kd.R_reads' CX.out.p.1.1.2.1).2.1 (Kd.V_reads' CX.out.p.1.2).2.2 (Kd.V_reads' CX.out.p.1.2).2.1 HSs.out).mono ?_
            rintro e_ w14 ⟨v, rfl, hr, hb⟩
            refine ⟨_, rfl, ?_⟩
            have HF := Aside0.mk (CX.out.fresh (d := Kd.int .i64) hb.size (Kd.R_mono (Kd.R_bound hr) (fun _ hk => hk.2.1)))
            replace CX := Aside0.mk (CX.out.call hb)
            obtain ⟨As, cs_, es_⟩ := Kd.R_slice HF.out
            subst es_
            replace CX := Aside0.mk (CX.out.withP (P' := PA (PA (PV k96 96 (.slice (some adp) ps.length cp) ps) (PR k44 44 w.heap.size (.slice Aq q2.length cq) q2)) (PR (Kd.int .i64) 2 w.heap.size (.slice As s1.length cs_) s1)) ⟨⟨CX.out.p.1.1.1.1, CX.out.p.2⟩, HF.out⟩ (gPA (gPA gPV gPR) gPR))
            clear hr hb HF
            refine hK.out _ _ ⟨CX.out.cell 0 0 rfl rfl, CX.out.cell 0 1 rfl rfl, CX.out.cell 1 1 rfl rfl, CX.out.cell 1 3 rfl rfl, CX.out.cell 1 4 rfl rfl, CX.out.cell 1 5 rfl rfl, CX.out.cell 4 0 rfl rfl, CX.out.cell 4 1 rfl rfl, CX.out.cell 4 2 rfl rfl⟩ (fun hHeld => ?_)
            clear hK K
            refine normA 80 ?_
            refine one_ (i := 8) (N := none) (lB 10 511) rfl rfl (one_of HT_.out (by kernel_rfl)) (by decide) (fun K hK => ?_)
            refine skipW CX Cx.wh5n2 (st41 (CX.out.blk 5 rfl)) ?_; clear CX; intro w15 CX
            refine hK.out _ _ ⟨CX.out.cell 0 0 rfl rfl, CX.out.cell 0 1 rfl rfl, CX.out.cell 1 1 rfl rfl, CX.out.cell 1 3 rfl rfl, CX.out.cell 1 4 rfl rfl, CX.out.cell 1 5 rfl rfl, CX.out.cell 4 0 rfl rfl, CX.out.cell 4 1 rfl rfl, CX.out.cell 4 2 rfl rfl⟩ (fun hHeld => ?_)
            clear hK K
            refine last_ (i := 9) (N := none) (lB 10 1023) rfl rfl (one_of HT_.out (by kernel_rfl)) (by decide) (fun K hK => ?_)
            refine skipW CX Cx.wh4n3 (st88 (CX.out.blk 4 rfl)) ?_; clear CX; intro w16 CX
            refine hK.out _ _ ?_
            clear hK K
            refine done_ (done_of HT_.out (by kernel_rfl)) ?_
            try go_wp2
            go_roundg gko
            case measure => omega
            case rel =>
              have CX3 := (CX.out.withP (P' := PA (PA (PV k96 96 (.slice (some adp) ps.length cp) ps) (PV k44 44 (.slice Aq q2.length cq) q2)) (PA (PR (Kd.int .i64) 2 n0 (.slice As s1.length cs_) s1) (PO (PS (.slice Aq q2.length cq) (.slice A0 f.f1.length c0) ⟨q1, q2⟩ f) (PR k44 44 w.heap.size (.slice Aq q2.length cq) q2)))) ⟨⟨CX.out.p.1.1, Kd.R_V CX.out.p.1.2⟩, Kd.R_lower CX.out.p.2 HM.out.2.2, .inr CX.out.p.1.2⟩ (gPA (gPA gPV gPV) (gPA gPR (gPO gPS gPR)))).drop 2
              refine ⟨_, zs ++ [p], rest, ⟨q1, q2⟩, ⟨s1, s2, s3⟩, Aq, As, cq, cs_, rfl, ⟨?_, ?_, ?_⟩, HR2, ⟨CX3⟩⟩
              · have h1 := HI.out.1; have h2 := HLL.out; have h3 := HL.out; rw [List.length_cons] at h2; rw [List.length_append, List.length_singleton]; unfold wrap64; omega
              · have h1 := HI.out.2.1; rw [List.length_cons] at h1; omega
              · rw [List.append_assoc]; exact HI.out.2.2

end Go.Proofs.Ytjinmlpekecmbaa.PEuclidNone
