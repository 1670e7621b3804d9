/- What the call of each function that the law reaches comes to: it answers as the plain function of the same name does, wherever that one answers; and the law itself out of its plain form. Written by a program of this session (an extended copy of the printer); no condition but what stands in each theorem. -/
import Derived.Test.YtkfbfgkdabljiaaPShadowSplitsx0
import Derived.Test.YtkfbfgkdabljiaaPShadowSplitsx3
import Derived.Test.YtkfbfgkdabljiaaPShadowSplitsx4
import Derived.Test.YtkfbfgkdabljiaaPShadowSplitsx6
namespace Go.Proofs.Ytkfbfgkdabljiaa.PShadowSplits
open Go.RowKit Go.Proofs.YtkfbfgkdabljiaaW.PrintWords Go.Proofs.YtkfbfgkdabljiaaW.PrintLast Go.Proofs.YtkfbfgkdabljiaaW.PrintMore
open Go.Proofs.YtkfbfgkdabljiaaW.PrintWords renaming blk_drewN → zN, blk_drew → zD, blk_alloc → zA, below_alloc → yA, pw_below_drewN → yN, below_drew1 → yD, below_set → yS, gate_callee → zC, gate_guard → zG
open Go.Proofs.YtkfbfgkdabljiaaW.PrintWords.Kd renaming V_alloc → vA, V_drewN → vN, V_drew → vD, N_alloc → nA, N_drewN → nN, N_drew → nD, C_alloc → cA, C_drewN → cN, C_drew → cD, V_mono → vM, V_far → vF
open Go.Proofs.YtkfbfgkdabljiaaW.PrintWords.Aside0 renaming mk → zK
open Bool renaming true → T_, false → F_
open List renaming setIfInBounds_toArray → zt, set_cons_zero → zz, set_cons_succ → zs
attribute [local go_sem] max2_int min2_int max_two min_two max_three min_three max_four min_four   -- for this text's walks alone
set_option linter.unusedVariables false
set_option linter.unusedSimpArgs false

/-! ### lin_sum: function 119, by hand -/
set_option maxHeartbeats 8000000 in
set_option maxRecDepth 100000 in
theorem sum_walk (A0 : Option Addr) (c0 : Nat) (l0 : List (S158)) (w : World) (hr0 : Kd.C k158 w A0 l0.length l0) (hc0 : l0.length ≤ c0) (hg : l0.all goodF = true) (r1 : Int) (r2 : List (S68)) (r3 : Int) (hr : (if sumOk (accs l0) (fit192 (ksum l0)).2 64 = true then ((fit192 (ksum l0)).1, sumOut (accs l0) 64, (0 : Int)) else (0, [], 5)) = (r1, r2, r3)) :
  Calls Try.prog 119 #[.slice A0 l0.length c0] w fun e w' => ∃ v1_ : Value, e = .returned (.tuple #[.agg #[.int .i64 r1, v1_], .int .i64 r3]) ∧ Kd.R k68 68 w' w.heap.size (fun _ => True) v1_ r2 ∧ Below w.heap.size w w' := by
 have hu28 := Try.underlying62
 have hu67 := Try.underlying158
 have hu47 := Try.underlying68
 have HR0 := zK hr0
 have HC0 := zK hc0
 have HG := zK hg
 obtain ⟨N0, hN0⟩ : ∃ N0, N0 = (fit192 (ksum l0)).1 := ⟨_, rfl⟩
 obtain ⟨D0, hD0⟩ : ∃ D0, D0 = (fit192 (ksum l0)).2 := ⟨_, rfl⟩
 rw [← hN0, ← hD0] at hr
 have HR := zK hr
 have HN0 := zK hN0
 have HD0 := zK hD0; clear hr0 hc0 hg hr hN0 hD0
 go_enter Try.func119, Try.ntmps119
 go_wp2_with (first
  | ((with_reducible refine gate_dst (N := 2) rfl ?_); refine box_event ?hg (N := 2) ?hd (cs := #[.int .i64 0, .slice none 0 0]) (t := 62) ?hr ?_; (case hd => rfl); (case hg => rfl); (case hr => first | (go_simp; done) | (go_simp; rfl)); intro gR hg_ w1 hbox_ hb_; have ER := zK hg_; have BR0 := zK hbox_; have HB1 := zK hb_; clear hg_ hbox_ hb_)
  | ((with_reducible refine gate_dst (N := 4) rfl ?_); refine box_event ?hg (N := 4) ?hd (cs := accCells [0]) (t := 128) ?hr ?_; (case hd => rfl); (case hg => rfl); (case hr => first | (go_simp; done) | (go_simp; rfl)); intro gK hg_ w2 hbox_ hb_; have EK := zK hg_; have BK0 := zK hbox_; have HB2 := zK hb_; clear hg_ hbox_ hb_)
  | ((with_reducible refine gate_dst (N := 5) rfl ?_); refine box_event ?hg (N := 5) ?hd (cs := accCells (List.replicate 64 0)) (t := 139) ?hr ?_; (case hd => rfl); (case hg => rfl); (case hr => first | (go_simp; done) | (go_simp; rfl)); intro gB hg_ w3 hbox_ hb_; have EB := zK hg_; have BB0 := zK hbox_; have HB3 := zK hb_; clear hg_ hbox_ hb_))
 have NRK := zK (show gR ≠ gK by have := ER.out; have := EK.out; have := blk_lt BR0.out; omega)
 have NRB := zK (show gR ≠ gB by have := ER.out; have := EB.out; have := blk_lt BR0.out; have := HB2.out.size; omega)
 have NKB := zK (show gK ≠ gB by have := EB.out; have := blk_lt BK0.out; omega)
 have GR := zK (Nat.le_of_eq ER.out.symm)
 have GK := zK (show w.heap.size ≤ gK by have := EK.out; have := HB1.out.size; omega)
 have GB := zK (show w.heap.size ≤ gB by have := EB.out; have := HB1.out.size; have := HB2.out.size; omega)
 have BR := zK (blk_below (blk_below BR0.out HB2.out) HB3.out)
 have BK := zK (blk_below BK0.out HB3.out)
 have BB := BB0
 have HB := zK (below_step (below_step HB1.out HB2.out) HB3.out); clear HB1 HB2 HB3 BR0 BK0 BB0 ER EK EB
 go_loopg [18] l0.length (fun gk v18 w' => ∃ (x : Int), v18 = .int .i64 x ∧ Aside0 (∃ i : Nat, x = i ∧ i + gk = l0.length ∧ w'.heap[gK]? = some (.cells (accCells [ksum (l0.take i)]) 128 (0, 0)) ∧ w'.heap[gB]? = some (.cells (accCells (accs (l0.take i))) 139 (0, 0))) ∧ Aside0 (w'.heap[gR]? = some (.cells #[.int .i64 0, .slice none 0 0] 62 (0, 0))) ∧ Aside0 (Below w.heap.size w w'))
 case atStart => exact ⟨0, rfl, ⟨0, rfl, by omega, BK.out, BB.out⟩, ⟨BR.out⟩, ⟨HB.out⟩⟩
 case round =>
  clear BR BK BB HB
  obtain ⟨x, rfl, HX, BR, HB⟩ := hrel
  obtain ⟨i, hxi, hgk, bk, bb⟩ := HX.out; clear HX
  have BK := zK bk
  have BB := zK bb; clear bk bb
  have HI := zK hxi
  have HGK := zK hgk; clear hxi hgk
  cases gk with
  | zero =>
   have c1 : decide (x < (l0.length : Int)) = false := decide_eq_false (by have := HI.out; have := HGK.out; omega)
   have hti : l0.take i = l0 := List.take_of_length_le (by have := HGK.out; omega)
   have BK2 := zK (show wr.heap[gK]? = some (.cells (accCells [ksum l0]) 128 (0, 0)) by have h_ := BK.out; rw [hti] at h_; exact h_)
   have BB2 := zK (show wr.heap[gB]? = some (.cells (accCells (accs l0)) 139 (0, 0)) by have h_ := BB.out; rw [hti] at h_; exact h_)
   clear hti BK BB
   go_wp2_with (first
    | (go_at_call 89; refine (exact_Fits gK 0 (ksum l0) _ 128 (accCells [ksum l0]) BK2.out (accCells_at [ksum l0] 0 (by simp))).mono ?_; rintro e w' ⟨rfl, ⟨nd, rfl⟩⟩; rw [← HN0.out, ← HD0.out])
    | ((with_reducible refine gate_dst (N := 12) rfl ?_); refine box_event ?hg (N := 12) ?hd (cs := #[.int .i64 0, .slice none 0 0]) (t := 62) ?hr ?_; (case hd => rfl); (case hg => rfl); (case hr => first | (go_simp; done) | (go_simp; rfl)); intro gO hg_ w8 hbox_ hb_; have EO := zK hg_; have BO0 := zK hbox_; have HB8 := zK hb_; clear hg_ hbox_ hb_; have hz0 : w8.cell? ⟨gO, 0, none⟩ = some (.int .i64 0) := (blk_cell BO0.out 0).trans rfl; have hz1 : w8.cell? ⟨gO, 1, none⟩ = some (.slice none 0 0) := (blk_cell BO0.out 1).trans rfl; have fz0 := blk_frozen BO0.out 0; have fz1 := blk_frozen BO0.out 1; have NBO := zK (show gB ≠ gO by have h_ := EO.out; have := blk_lt BB2.out; simp at h_; omega); have NRO := zK (show gR ≠ gO by have h_ := EO.out; have := blk_lt BR.out; simp at h_; omega); have GO := zK (show w.heap.size ≤ gO by have h_ := EO.out; have := HB.out.size; simp at h_; omega)))
   go_loopg [11, 52] 64 (fun gk v11 v52 w' => ∃ (b : Bool) (x : Int) (u : Value), v11 = .bool b ∧ v52 = .int .i64 x ∧ Aside0 (∃ i : Nat, x = i ∧ i + gk = 64 ∧ b = sumOk (accs l0) D0 i ∧ Kd.R k68 68 w' w.heap.size (fun _ => True) u (sumOut (accs l0) i)) ∧ Aside0 (w'.heap[gB]? = some (.cells (accCells (accs l0)) 139 (0, 0))) ∧ Aside0 (w'.heap[gO]? = some (.cells #[.int .i64 N0, u] 62 (0, 0))) ∧ Aside0 (w'.heap[gR]? = some (.cells #[.int .i64 0, .slice none 0 0] 62 (0, 0))) ∧ Aside0 (Below w.heap.size w w'))
   case atStart =>
    refine ⟨D0, 0, .slice none 0 0, rfl, rfl, ⟨0, rfl, rfl, by simp [sumOk], ?_⟩, ⟨?_⟩, ⟨?_⟩, ⟨?_⟩, ⟨?_⟩⟩
    ·exact Kd.R_nil _ _ _ _ _
    ·exact blk_far (blk_far (blk_below (zN BB2.out _) HB8.out) (p := ⟨gO, 0, none⟩) NBO.out (.int .i64 N0)) (p := ⟨gO, 1, none⟩) NBO.out (.slice none 0 0)
    ·exact blk_put (cs' := #[.int .i64 N0, .slice none 0 0]) (blk_put (cs' := #[.int .i64 N0, .slice none 0 0]) BO0.out 0 _ rfl) 1 _ rfl
    ·exact blk_far (blk_far (blk_below (zN BR.out _) HB8.out) (p := ⟨gO, 0, none⟩) NRO.out (.int .i64 N0)) (p := ⟨gO, 1, none⟩) NRO.out (.slice none 0 0)
    ·exact yS (yS (below_step (yN HB.out _) HB8.out) GO.out) GO.out
   case round =>
    clear BK2 BB2 HB8 BO0 BR HB HGK HI hz0 hz1 fz0 fz1 EO
    obtain ⟨b, x2, u, rfl, rfl, HX2, BB, BO, BR, HB⟩ := hrel
    obtain ⟨v, hxv, hgv, hbv, hou⟩ := HX2.out; clear HX2
    have HV := zK hxv
    have HGV := zK hgv
    have HBV := zK hbv
    have HO := zK hou; clear hxv hgv hbv hou
    cases gk with
    | zero =>
     have c3 : decide (x2 < 64) = false := decide_eq_false (by have := HV.out; have := HGV.out; omega)
     have hv64 : v = 64 := by have := HGV.out; omega
     obtain ⟨Ao, co, eo⟩ := Kd.R_slice HO.out
     subst eo
     have ho0 : wr.cell? ⟨gO, 0, none⟩ = some (.int .i64 N0) := (blk_cell BO.out 0).trans rfl
     have ho1 : wr.cell? ⟨gO, 1, none⟩ = some (.slice Ao (sumOut (accs l0) v).length co) := (blk_cell BO.out 1).trans rfl
     have hq0 : wr.cell? ⟨gR, 0, none⟩ = some (.int .i64 0) := (blk_cell BR.out 0).trans rfl
     have hq1 : wr.cell? ⟨gR, 1, none⟩ = some (.slice none 0 0) := (blk_cell BR.out 1).trans rfl
     have fq0 := blk_frozen BR.out 0
     have fq1 := blk_frozen BR.out 1
     have n1 := NRO.out
     have n2 := Ne.symm NRO.out
     have HRR := HR.out
     rw [hv64] at HBV
     rw [← HBV.out] at HRR
     have HO64 := zK (show sumOut (accs l0) v = sumOut (accs l0) 64 by rw [hv64])
     clear hv64
     cases b with
     | true =>
      rw [if_pos rfl] at HRR
      simp only [Prod.mk.injEq] at HRR
      obtain ⟨e1, e2, e3⟩ := HRR
      have E1 := zK e1
      have E2 := zK e2
      have E3 := zK e3; clear e1 e2 e3
      go_wp2
      refine bodyPost_ret (results_ct rfl _ _ gR 62 #[.int .i64 N0, .slice Ao (sumOut (accs l0) v).length co] (0, 0) _ rfl (blk_put (cs' := #[.int .i64 N0, .slice Ao (sumOut (accs l0) v).length co]) (blk_put (cs' := #[.int .i64 N0, .slice none 0 0]) BR.out 0 _ rfl) 1 _ rfl) Try.underlying62 rfl (by kernel_rfl)) rfl ?_
      refine ⟨.slice Ao (sumOut (accs l0) v).length co, by rw [← E1.out, ← E3.out]; rfl, ?_, yS (yS HB.out GR.out) GR.out⟩
      rw [← E2.out, ← HO64.out]
      exact Kd.R_mono (Kd.R_far (p := ⟨gR, 1, none⟩) (Kd.R_far (p := ⟨gR, 0, none⟩) (Kd.R_types HO.out BR.out (by decide)) (fun _ hk => hk.2) (.int .i64 N0)) (fun _ hk => hk.2) (.slice Ao (sumOut (accs l0) v).length co)) (fun _ hk => trivial)
     | false =>
      rw [if_neg (by simp)] at HRR
      simp only [Prod.mk.injEq] at HRR
      obtain ⟨e1, e2, e3⟩ := HRR
      have E1 := zK e1
      have E2 := zK e2
      have E3 := zK e3; clear e1 e2 e3
      go_wp2
      refine bodyPost_ret (results_ct rfl _ _ gR 62 #[.int .i64 0, .slice none 0 0] (0, 0) _ rfl (blk_put (cs' := #[.int .i64 0, .slice none 0 0]) (blk_put (cs' := #[.int .i64 0, .slice none 0 0]) BR.out 0 _ rfl) 1 _ rfl) Try.underlying62 rfl (by kernel_rfl)) rfl ?_
      refine ⟨.slice none 0 0, by rw [← E1.out, ← E3.out]; rfl, ?_, yS (yS HB.out GR.out) GR.out⟩
      rw [← E2.out]
      exact Kd.R_nil _ _ _ _ _
    | succ gkv =>
     have p3 : 0 ≤ x2 := by have := HV.out; omega
     have q3 : x2 < 64 := by have := HV.out; have := HGV.out; omega
     have c3 : decide (x2 < 64) = true := decide_eq_true q3
     have HP3 := zK (And.intro p3 q3)
     have HVX := zK (show x2.toNat = v by have := HV.out; omega)
     obtain ⟨M1, hM1⟩ : ∃ M1, M1 = (fit192 ((accs l0).getD v 0)).1 := ⟨_, rfl⟩
     obtain ⟨M2, hM2⟩ : ∃ M2, M2 = (fit192 ((accs l0).getD v 0)).2 := ⟨_, rfl⟩
     have HM1 := zK hM1
     have HM2 := zK hM2; clear hM1 hM2
     have HS1 := zK (show sumOk (accs l0) D0 (v + 1) = (b && M2) by rw [sumOk_succ, ← HBV.out, ← HM2.out])
     have HS2 := zK (show sumOut (accs l0) (v + 1) = sumOut (accs l0) v ++ (if M1 = 0 then [] else [⟨x2, M1⟩]) by rw [sumOut_succ, ← HM1.out, HV.out])
     have CF := zK (show ∀ W : World, W.heap[gB]? = some (.cells (accCells (accs l0)) 139 (0, 0)) → Calls Try.prog 89 #[.pointer (some ⟨gB, x2.toNat * 3, none⟩)] W fun e W' => e = .returned (.tuple #[.int .i64 M1, .bool M2]) ∧ Drawn0 W W' by
      intro W h_
      have h3 := accCells_at (accs l0) v (by rw [accs_length]; have := HGV.out; omega)
      rw [Nat.mul_comm, ← HVX.out] at h3
      rw [HM1.out, HM2.out, ← HVX.out]
      exact exact_Fits gB (x2.toNat * 3) _ W _ _ h_ h3)
     have ho0 : wr.cell? ⟨gO, 0, none⟩ = some (.int .i64 N0) := (blk_cell BO.out 0).trans rfl
     have ho1 : wr.cell? ⟨gO, 1, none⟩ = some u := (blk_cell BO.out 1).trans rfl
     by_cases hm : M1 = 0
     ·have m1 : (M1 == 0) = true := beq_iff_eq.2 hm
      have m2 : (M1 != 0) = false := bne_eq_false_iff_eq.2 hm
      have HMZ := zK hm; clear hm
      cases b
      all_goals
       go_wp2_with (first | (go_at_call 89; refine (CF.out _ BB.out).mono ?_; rintro e w' ⟨rfl, ⟨nd, rfl⟩⟩))
       go_roundg gkv
       case measure => omega
       case rel =>
        refine ⟨_, _, u, (by first | rfl | (simp; done) | (simp [*]; done)), (by first | rfl | (simp; done) | (simp [*]; done)), ⟨v + 1, ?_, by have := HGV.out; omega, ?_, ?_⟩, ⟨zN BB.out _⟩, ⟨zN BO.out _⟩, ⟨zN BR.out _⟩, ⟨yN HB.out _⟩⟩
        ·have := HV.out; have := HP3.out; first | omega | (unfold wrap64; omega)
        ·rw [HS1.out]; simp
        ·rw [HS2.out, if_pos HMZ.out, List.append_nil]; exact Kd.R_drewN HO.out _
     ·have m1 : (M1 == 0) = false := beq_eq_false_iff_ne.2 hm
      have m2 : (M1 != 0) = true := bne_iff_ne.2 hm
      have HMZ := zK hm; clear hm
      obtain ⟨Y, hY⟩ : ∃ Y : List S68, Y = sumOut (accs l0) v ++ [⟨x2, M1⟩] := ⟨_, rfl⟩
      have NY := zK hY; clear hY
      cases b
      all_goals
       go_wp2_with (first
        | (go_at_call 89; refine (CF.out _ BB.out).mono ?_; rintro e w' ⟨rfl, ⟨nd, rfl⟩⟩)
        | ((with_reducible refine gate_builtin (b := .append) (xs := #[.tmp 68, .tmp 72]) rfl ?_); at_builtin; refine Kd.R_append k68 (w0 := w) w.heap.size rfl (.tmp 68) (.tmp 72) 60 68 (.agg #[(.int .i64 0), (.int .i64 0)]) 16 rfl Try.underlying60 info68 rfl (by decide) (by omega) u (sumOut (accs l0) v) (⟨x2, M1⟩ : S68) [.int .i64 x2, .int .i64 M1] (fun _ => True) (fun _ => False) rfl rfl ?aP (fun _ hk => hk.elim) ?aF ?aO ?aB ?aS ?aL ?_; (case aP => exact k68_mkM _ _ _ (⟨x2, M1⟩ : S68)); (case aB => exact yN HB.out _); (case aF => exact (fun _ _ => trivial)); (case aO => exact Kd.R_drewN HO.out _); (case aS => exact HB.out.size); (case aL => have h1_ := sumOut_length (accs l0) v; have := HGV.out; omega); intro v1 w9 ho_ hb_ hg_ hat_; have BB9 := zK (blk_grown (g := gB) (zN BB.out nd) hg_ (Kd.R_ne HO.out BB.out (by decide))); have BO9 := zK (blk_grown (g := gO) (zN BO.out nd) hg_ (Kd.R_ne HO.out BO.out (by decide))); have BR9 := zK (blk_grown (g := gR) (zN BR.out nd) hg_ (Kd.R_ne HO.out BR.out (by decide))); rw [← NY.out] at ho_; have HB9 := zK hb_; have HO9 := zK ho_; clear ho_ hb_ hg_ hat_ ho0 ho1; obtain ⟨Ao, co, eo⟩ := Kd.R_slice HO9.out; subst eo; have ho0 : w9.cell? ⟨gO, 0, none⟩ = some (.int .i64 N0) := (blk_cell BO9.out 0).trans rfl; have ho1 : w9.cell? ⟨gO, 1, none⟩ = some u := (blk_cell BO9.out 1).trans rfl; have fo0 := blk_frozen BO9.out 0; have fo1 := blk_frozen BO9.out 1))
       go_roundg gkv
       case measure => omega
       case rel =>
        refine ⟨_, _, _, (by first | rfl | (simp; done) | (simp [*]; done)), (by first | rfl | (simp; done) | (simp [*]; done)), ⟨v + 1, ?_, by have := HGV.out; omega, ?_, ?_⟩, ⟨blk_far BB9.out (p := ⟨gO, 1, none⟩) NBO.out _⟩, ⟨blk_put (cs' := #[.int .i64 N0, .slice Ao Y.length co]) BO9.out 1 _ rfl⟩, ⟨blk_far BR9.out (p := ⟨gO, 1, none⟩) NRO.out _⟩, ⟨yS HB9.out GO.out⟩⟩
        ·have := HV.out; have := HP3.out; first | omega | (unfold wrap64; omega)
        ·rw [HS1.out]; simp
        ·rw [HS2.out, if_neg HMZ.out, ← NY.out]
         exact Kd.R_mono (Kd.R_far (p := ⟨gO, 1, none⟩) (Kd.R_types HO9.out BO9.out (by decide)) (fun _ hk => hk.2) _) (fun _ hk => trivial)
  | succ gko =>
   have p1 : 0 ≤ x := by have := HI.out; omega
   have q1 : x < (l0.length : Int) := by have := HI.out; have := HGK.out; omega
   obtain ⟨XF, hXF⟩ : ∃ XF, XF = rd_T158 l0 x := ⟨_, rfl⟩
   have HXF := zK (show i < l0.length ∧ ∀ h : i < l0.length, XF = l0[i] by
    have := HI.out; have := HGK.out
    refine ⟨by omega, fun h => ?_⟩
    rw [hXF, HI.out]; simp [rd_T158, h])
   have HGF := zK (show goodF XF = true by rw [HXF.out.2 HXF.out.1]; exact List.all_eq_true.1 HG.out _ (List.getElem_mem _))
   obtain ⟨ad, A1, k1, e1, hx0, hx1, hx2, hl1, hi1⟩ := at_T158 HR0.out x p1 q1
   rw [← hXF] at hx0 hx1 hx2 hl1 hi1; clear hXF
   cases e1
   replace hx0 := (HB.out.cell (World.block_lt_of_cell? w _ hx0)).trans hx0
   replace hx1 := (HB.out.cell (World.block_lt_of_cell? w _ hx1)).trans hx1
   replace hx2 := (HB.out.cell (World.block_lt_of_cell? w _ hx2)).trans hx2
   have HRX := zK hi1
   have HLX := zK hl1; clear hi1 hl1
   have c1 : decide (x < (l0.length : Int)) = true := decide_eq_true q1
   replace p1 := eq_true p1
   replace q1 := eq_true q1
   have RXF := zK (show in64 XF.f0.f0 = true ∧ in64 XF.f1 = true ∧ XF.f0.f1.all goodM = true by
    have h := HGF.out; unfold goodF at h; rw [Bool.and_eq_true, Bool.and_eq_true] at h; exact ⟨h.1.1, h.1.2, h.2⟩)
   clear HGF
   have KE := zK (show ksum (l0.take (i + 1)) = ksum (l0.take i) + XF.f0.f0 * XF.f1 by have e_ := HXF.out.2 HXF.out.1; rw [ksum_take l0 i HXF.out.1, ← e_])
   have AE := zK (show accs (l0.take (i + 1)) = XF.f0.f1.foldl (addM XF.f1) (accs (l0.take i)) by have e_ := HXF.out.2 HXF.out.1; rw [accs_take l0 i HXF.out.1, ← e_]; rfl)
   go_wp2_with (first
    | ((with_reducible refine gate_dst (N := 7) rfl ?_); refine box_event ?hg (N := 7) ?hd (cs := #[.int .i64 0, .slice none 0 0, .int .i64 0]) (t := 158) ?hr ?_; (case hd => rfl); (case hg => rfl); (case hr => first | (go_simp; done) | (go_simp; rfl)); intro gX hg_ w4 hbox_ hb_; have EX := zK hg_; have BX0 := zK hbox_; have HB4 := zK hb_; clear hg_ hbox_ hb_; have hz0 : w4.cell? ⟨gX, 0, none⟩ = some (.int .i64 0) := (blk_cell BX0.out 0).trans rfl; have hz1 : w4.cell? ⟨gX, 1, none⟩ = some (.slice none 0 0) := (blk_cell BX0.out 1).trans rfl; have hz2 : w4.cell? ⟨gX, 2, none⟩ = some (.int .i64 0) := (blk_cell BX0.out 2).trans rfl; have fz0 := blk_frozen BX0.out 0; have fz1 := blk_frozen BX0.out 1; have fz2 := blk_frozen BX0.out 2; have NKX := zK (show gK ≠ gX by have := EX.out; have := blk_lt BK.out; omega); have NBX := zK (show gB ≠ gX by have := EX.out; have := blk_lt BB.out; omega); have NRX := zK (show gR ≠ gX by have := EX.out; have := blk_lt BR.out; omega); have GX := zK (show w.heap.size ≤ gX by have := EX.out; have := HB.out.size; omega))
    | (go_at_call 88; refine (exact_Add gK 0 (ksum (l0.take i)) XF.f0.f0 XF.f1 _ 128 (accCells [ksum (l0.take i)]) (in64_iff RXF.out.1).1 (in64_iff RXF.out.1).2 (in64_iff RXF.out.2.1).1 (in64_iff RXF.out.2.1).2 ?rb (accCells_at [ksum (l0.take i)] 0 (by simp))).mono ?_; (case rb => repeat (first | exact blk_below BK.out HB4.out | refine blk_far ?_ NKX.out _)); rintro e w5 ⟨rfl, hk_, hs_⟩; have BK5 : Aside0 (w5.heap[gK]? = some (.cells (accCells [ksum (l0.take (i + 1))]) 128 (0, 0))) := zK (hk_.trans (congrArg (fun z => some (Obj.cells z 128 (0, 0))) ((accCells_put [ksum (l0.take i)] 0 (ksum (l0.take i) + XF.f0.f0 * XF.f1) (by simp)).trans (by rw [KE.out]; rfl)))); have BX5 := zK ((hs_.block gX (Ne.symm NKX.out)).trans (blk_put (cs' := #[.int .i64 XF.f0.f0, .slice A1 XF.f0.f1.length k1, .int .i64 XF.f1]) (blk_put (cs' := #[.int .i64 XF.f0.f0, .slice A1 XF.f0.f1.length k1, .int .i64 0]) (blk_put (cs' := #[.int .i64 XF.f0.f0, .slice none 0 0, .int .i64 0]) BX0.out 0 _ rfl) 1 _ rfl) 2 _ rfl)); have BB5 := zK ((hs_.block gB (Ne.symm NKB.out)).trans (blk_far (blk_far (blk_far (blk_below BB.out HB4.out) (p := ⟨gX, 0, none⟩) NBX.out (.int .i64 XF.f0.f0)) (p := ⟨gX, 1, none⟩) NBX.out (.slice A1 XF.f0.f1.length k1)) (p := ⟨gX, 2, none⟩) NBX.out (.int .i64 XF.f1))); have BR5 := zK ((hs_.block gR NRK.out).trans (blk_far (blk_far (blk_far (blk_below BR.out HB4.out) (p := ⟨gX, 0, none⟩) NRX.out (.int .i64 XF.f0.f0)) (p := ⟨gX, 1, none⟩) NRX.out (.slice A1 XF.f0.f1.length k1)) (p := ⟨gX, 2, none⟩) NRX.out (.int .i64 XF.f1))); have HB5 := zK (Below.trans (yS (yS (yS (below_step HB.out HB4.out) GX.out) GX.out) GX.out) (hs_.below GK.out)); clear hk_ hs_ hx0 hx1 hx2 hz0 hz1 hz2 fz0 fz1 fz2 BK BX0 BB BR HB HB4 EX; have hy0 : w5.cell? ⟨gX, 0, none⟩ = some (.int .i64 XF.f0.f0) := (blk_cell BX5.out 0).trans rfl; have hy1 : w5.cell? ⟨gX, 1, none⟩ = some (.slice A1 XF.f0.f1.length k1) := (blk_cell BX5.out 1).trans rfl; have hy2 : w5.cell? ⟨gX, 2, none⟩ = some (.int .i64 XF.f1) := (blk_cell BX5.out 2).trans rfl))
   go_loopg [32] XF.f0.f1.length (fun gm v32 w' => ∃ (y : Int), v32 = .int .i64 y ∧ Aside0 (∃ j : Nat, y = j ∧ j + gm = XF.f0.f1.length ∧ w'.heap[gB]? = some (.cells (accCells ((XF.f0.f1.take j).foldl (addM XF.f1) (accs (l0.take i)))) 139 (0, 0))) ∧ Aside0 (w'.heap[gK]? = some (.cells (accCells [ksum (l0.take (i + 1))]) 128 (0, 0))) ∧ Aside0 (w'.heap[gX]? = some (.cells #[.int .i64 XF.f0.f0, .slice A1 XF.f0.f1.length k1, .int .i64 XF.f1] 158 (0, 0))) ∧ Aside0 (w'.heap[gR]? = some (.cells #[.int .i64 0, .slice none 0 0] 62 (0, 0))) ∧ Aside0 (Below w.heap.size w w'))
   case atStart => exact ⟨0, rfl, ⟨0, rfl, by omega, BB5.out⟩, ⟨BK5.out⟩, ⟨BX5.out⟩, ⟨BR5.out⟩, ⟨HB5.out⟩⟩
   case round =>
    clear BB5 BK5 BX5 BR5 HB5 hy0 hy1 hy2
    obtain ⟨y, rfl, HY, BK, BX, BR, HB⟩ := hrel
    obtain ⟨j, hyj, hgm, bb⟩ := HY.out; clear HY
    have BB := zK bb; clear bb
    have HJ := zK hyj
    have HGM := zK hgm; clear hyj hgm
    cases gk with
    | zero =>
     have c2 : decide (y < (XF.f0.f1.length : Int)) = false := decide_eq_false (by have := HJ.out; have := HGM.out; omega)
     go_wp2
     go_roundg gko
     case measure => omega
     case rel =>
      have hx1 : wrap64 (x + 1) = ((i + 1 : Nat) : Int) := by have := HI.out; have := HXF.out.1; have := HR0.out.2.1; unfold wrap64; omega
      have hj : XF.f0.f1.take j = XF.f0.f1 := List.take_of_length_le (by have := HGM.out; omega)
      refine ⟨wrap64 (x + 1), (by first | rfl | (simp; done) | (simp [*]; done)), ⟨i + 1, hx1, by have := HGK.out; omega, BK.out, ?_⟩, ⟨BR.out⟩, ⟨HB.out⟩⟩
      rw [AE.out]
      have hb := BB.out
      rw [hj] at hb
      exact hb
    | succ gki =>
     have p2 : 0 ≤ y := by have := HJ.out; omega
     have q2 : y < (XF.f0.f1.length : Int) := by have := HJ.out; have := HGM.out; omega
     obtain ⟨XM, hXM⟩ : ∃ XM, XM = rd_T68 XF.f0.f1 y := ⟨_, rfl⟩
     have HXM := zK (show j < XF.f0.f1.length ∧ ∀ h : j < XF.f0.f1.length, XM = XF.f0.f1[j] by
      have := HJ.out; have := HGM.out
      refine ⟨by omega, fun h => ?_⟩
      rw [hXM, HJ.out]; simp [rd_T68, h])
     have HGM2 := zK (show goodM XM = true by rw [HXM.out.2 HXM.out.1]; exact List.all_eq_true.1 RXF.out.2.2 _ (List.getElem_mem _))
     obtain ⟨ad2, e2, hm0, hm1⟩ := at_T68 HRX.out y p2 q2
     rw [← hXM] at hm0 hm1; clear hXM
     cases e2
     replace hm0 := (HB.out.cell (World.block_lt_of_cell? w _ hm0)).trans hm0
     replace hm1 := (HB.out.cell (World.block_lt_of_cell? w _ hm1)).trans hm1
     have c2 : decide (y < (XF.f0.f1.length : Int)) = true := decide_eq_true q2
     replace p2 := eq_true p2
     replace q2 := eq_true q2
     have hy0 : wr.cell? ⟨gX, 0, none⟩ = some (.int .i64 XF.f0.f0) := (blk_cell BX.out 0).trans rfl
     have hy2 : wr.cell? ⟨gX, 2, none⟩ = some (.int .i64 XF.f1) := (blk_cell BX.out 2).trans rfl
     go_wp2_with (first
      | ((with_reducible refine gate_dst (N := 9) rfl ?_); refine box_event ?hg (N := 9) ?hd (cs := #[.int .i64 0, .int .i64 0]) (t := 68) ?hr ?_; (case hd => rfl); (case hg => rfl); (case hr => first | (go_simp; done) | (go_simp; rfl)); intro gM hg_ w6 hbox_ hb_; have EM := zK hg_; have BM0 := zK hbox_; have HB6 := zK hb_; clear hg_ hbox_ hb_; have hz0 : w6.cell? ⟨gM, 0, none⟩ = some (.int .i64 0) := (blk_cell BM0.out 0).trans rfl; have hz1 : w6.cell? ⟨gM, 1, none⟩ = some (.int .i64 0) := (blk_cell BM0.out 1).trans rfl; have fz0 := blk_frozen BM0.out 0; have fz1 := blk_frozen BM0.out 1))
     have hv := HGM2.out
     unfold goodM at hv
     rw [Bool.and_eq_true, Bool.and_eq_true] at hv
     have RM := zK (in64_iff hv.2)
     have v0 : 0 ≤ XM.f0 := of_decide_eq_true hv.1.1
     have v1 : XM.f0 < 64 := of_decide_eq_true hv.1.2; clear hv
     have HV := zK (And.intro v0 v1)
     have NKM := zK (show gK ≠ gM by have := EM.out; have := blk_lt BK.out; omega)
     have NBM := zK (show gB ≠ gM by have := EM.out; have := blk_lt BB.out; omega)
     have NRM := zK (show gR ≠ gM by have := EM.out; have := blk_lt BR.out; omega)
     have NXM := zK (show gX ≠ gM by have := EM.out; have := blk_lt BX.out; omega)
     have GM := zK (show w.heap.size ≤ gM by have := EM.out; have := HB.out.size; omega)
     have BX6 := zK (blk_below BX.out HB6.out)
     have hz6 : w6.cell? ⟨gX, 2, none⟩ = some (.int .i64 XF.f1) := (blk_cell BX6.out 2).trans rfl
     have n1 := NXM.out
     have n2 := Ne.symm NXM.out
     have HAL := zK (show XM.f0.toNat < ((XF.f0.f1.take j).foldl (addM XF.f1) (accs (l0.take i))).length by rw [foldM_length, accs_length]; have := HV.out; omega)
     have HME := zK (show (XF.f0.f1.take (j + 1)).foldl (addM XF.f1) (accs (l0.take i)) = addM XF.f1 ((XF.f0.f1.take j).foldl (addM XF.f1) (accs (l0.take i))) XM by
      have e_ := HXM.out.2 HXM.out.1
      rw [List.take_succ_eq_append_getElem HXM.out.1, List.foldl_append, ← e_]; rfl)
     go_region_with (go_at_call 88; refine (exact_Add gB (XM.f0.toNat * 3) (((XF.f0.f1.take j).foldl (addM XF.f1) (accs (l0.take i))).getD XM.f0.toNat 0) XM.f1 XF.f1 _ 139 (accCells ((XF.f0.f1.take j).foldl (addM XF.f1) (accs (l0.take i)))) RM.out.1 RM.out.2 (in64_iff RXF.out.2.1).1 (in64_iff RXF.out.2.1).2 ?rb ?rc).mono ?_; (case rb => exact zD (blk_far (blk_far (blk_below BB.out HB6.out) (p := ⟨gM, 0, none⟩) NBM.out (.int .i64 XM.f0)) (p := ⟨gM, 1, none⟩) NBM.out (.int .i64 XM.f1))); (case rc => have h_ := accCells_at _ _ HAL.out; rw [Nat.mul_comm] at h_; exact h_); rintro e w7 ⟨rfl, hk_, hs_⟩; have BB7 := zK (hk_.trans (congrArg (fun z => some (Obj.cells z 139 (0, 0))) (show _ = accCells ((XF.f0.f1.take (j + 1)).foldl (addM XF.f1) (accs (l0.take i))) by rw [HME.out, Nat.mul_comm XM.f0.toNat 3, accCells_put _ _ _ HAL.out]; rfl))); have BX7 := zK ((hs_.block gX (Ne.symm NBX.out)).trans (zD (blk_far (blk_far BX6.out (p := ⟨gM, 0, none⟩) NXM.out (.int .i64 XM.f0)) (p := ⟨gM, 1, none⟩) NXM.out (.int .i64 XM.f1)))); have BK7 := zK ((hs_.block gK NKB.out).trans (zD (blk_far (blk_far (blk_below BK.out HB6.out) (p := ⟨gM, 0, none⟩) NKM.out (.int .i64 XM.f0)) (p := ⟨gM, 1, none⟩) NKM.out (.int .i64 XM.f1)))); have BR7 := zK ((hs_.block gR NRB.out).trans (zD (blk_far (blk_far (blk_below BR.out HB6.out) (p := ⟨gM, 0, none⟩) NRM.out (.int .i64 XM.f0)) (p := ⟨gM, 1, none⟩) NRM.out (.int .i64 XM.f1)))); have HB7 := zK (Below.trans (yD (yS (yS (below_step HB.out HB6.out) GM.out) GM.out)) (hs_.below GB.out)))
     all_goals
      go_wp2
      go_roundg gki
      case measure => omega
      case rel =>
       refine ⟨wrap64 (y + 1), (by first | rfl | (simp; done) | (simp [*]; done)), ⟨j + 1, ?_, by have := HGM.out; omega, BB7.out⟩, ⟨BK7.out⟩, ⟨BX7.out⟩, ⟨BR7.out⟩, ⟨HB7.out⟩⟩
       have := HJ.out; have := HXM.out.1; have := HRX.out.2.1; unfold wrap64; omega

theorem lin_sum.calls (A0 : Option Addr) (c0 : Nat) (l0 : List (S158)) (r1 : Int) (r2 : List (S68)) (r3 : Int) (w : World) (hr0 : Kd.C k158 w A0 l0.length l0) (hc0 : l0.length ≤ c0) (h : lin_sum.f l0 = some (r1, r2, r3)) :
  Calls Try.prog 119 #[.slice A0 l0.length c0] w fun e w' => ∃ v1_ : Value, e = .returned (.tuple #[.agg #[.int .i64 r1, v1_], .int .i64 r3]) ∧ Kd.R k68 68 w' w.heap.size (fun _ => True) v1_ r2 ∧ Below w.heap.size w w' := by
 unfold lin_sum.f at h
 split at h
 ·rename_i hg
  exact sum_walk A0 c0 l0 w hr0 hc0 hg r1 r2 r3 (Option.some.inj h)
 ·cases h

/-! ### lin_Sum: function 112 -/
mutual
def lin_Sum.j0 : Nat → List (S62) → List Int → Bool → Option (Int × (List (S68)) × Int)
 | 0, _, _, _ => none
 | k + 1, x0, x1, x18 => if x18 = true then (some (0, ([] : List (S68)), 1)) else (lin_Sum.l0 k x1 ([] : List (S158)) x0 (x0.length : Int) 0)
def lin_Sum.l0 : Nat → List Int → List (S158) → List (S62) → Int → Int → Option (Int × (List (S68)) × Int)
 | 0, _, _, _, _, _ => none
 | k + 1, x1, x6, x20, x21, x22 => if x22 < x21 then (if 0 ≤ x22 then (if x22 < (x20.length : Int) then (if x22 < (x1.length : Int) then (if x6.length < 3518437208883 then (lin_Sum.l0 k x1 (x6 ++ [(⟨(⟨(rd_T62 x20 x22).f0, (rd_T62 x20 x22).f1⟩ : S62), rd x1 x22⟩ : S158)]) x20 x21 (wrap64 (x22 + 1))) else (none)) else (none)) else (none)) else (none)) else ((lin_sum.f x6).bind fun bt220 => (some (bt220.1, bt220.2.1, bt220.2.2)))
end
def lin_Sum.f (k : Nat) (l0 : List (S62)) (l1 : List Int) : Option (Int × (List (S68)) × Int) := (lin_right.f k l0).bind fun t213 => (if t213 = true then (lin_Sum.j0 k l0 l1 ((l0.length : Int) != (l1.length : Int))) else (lin_Sum.j0 k l0 l1 true))
theorem lin_Sum.mono_l : ∀ k, (∀ y0 y1 y2, LeO (lin_Sum.j0 k y0 y1 y2) (lin_Sum.j0 (k + 1) y0 y1 y2)) ∧ (∀ y0 y1 y2 y3 y4, LeO (lin_Sum.l0 k y0 y1 y2 y3 y4) (lin_Sum.l0 (k + 1) y0 y1 y2 y3 y4))
 | 0 => ⟨fun _ _ _ r h => by simp [lin_Sum.j0] at h, fun _ _ _ _ _ r h => by simp [lin_Sum.l0] at h⟩
 | k + 1 => by
  obtain ⟨ih0, ih1⟩ := lin_Sum.mono_l k
  refine ⟨?_, ?_⟩
  ·intro y0 y1 y2
   unfold lin_Sum.j0
   repeat' first
   | (with_reducible exact ih0 _ _ _)
   | (with_reducible exact ih1 _ _ _ _ _)
   | (with_reducible exact lin_right.mono _ _)
   | (with_reducible exact LeO.refl _)
   | (with_reducible exact LeO.none _)
   | (with_reducible refine LeO.ite ?_ ?_)
   | (with_reducible refine LeO.bind ?_ (fun _ => ?_))
   | exact ih0 _ _ _
   | exact ih1 _ _ _ _ _
   | exact lin_right.mono _ _
   | exact LeO.none _
   | refine LeO.ite ?_ ?_
   | refine LeO.bind ?_ (fun _ => ?_)
  ·intro y0 y1 y2 y3 y4
   unfold lin_Sum.l0
   repeat' first
   | (with_reducible exact ih0 _ _ _)
   | (with_reducible exact ih1 _ _ _ _ _)
   | (with_reducible exact lin_right.mono _ _)
   | (with_reducible exact LeO.refl _)
   | (with_reducible exact LeO.none _)
   | (with_reducible refine LeO.ite ?_ ?_)
   | (with_reducible refine LeO.bind ?_ (fun _ => ?_))
   | exact ih0 _ _ _
   | exact ih1 _ _ _ _ _
   | exact lin_right.mono _ _
   | exact LeO.none _
   | refine LeO.ite ?_ ?_
   | refine LeO.bind ?_ (fun _ => ?_)
theorem lin_Sum.mono : ∀ a0 a1 k, LeO (lin_Sum.f k a0 a1) (lin_Sum.f (k + 1) a0 a1) := by
 intro a0 a1 k
 obtain ⟨ih0, ih1⟩ := lin_Sum.mono_l k
 unfold lin_Sum.f
 repeat' first
   | (with_reducible exact ih0 _ _ _)
   | (with_reducible exact ih1 _ _ _ _ _)
   | (with_reducible exact lin_right.mono _ _)
   | (with_reducible exact LeO.refl _)
   | (with_reducible exact LeO.none _)
   | (with_reducible refine LeO.ite ?_ ?_)
   | (with_reducible refine LeO.bind ?_ (fun _ => ?_))
   | exact ih0 _ _ _
   | exact ih1 _ _ _ _ _
   | exact lin_right.mono _ _
   | exact LeO.none _
   | refine LeO.ite ?_ ?_
   | refine LeO.bind ?_ (fun _ => ?_)
def lin_Sum.T7 : Bool × List (List Nat × List Nat) := (true, [([], []), ([], []), ([], []), ([], []), ([2, 3], [2, 3]), ([4], [4]), ([1, 5], [1, 5]), ([6], [6]), ([0, 7], [0, 7]), ([8, 8, 0, 1, 2, 3, 4, 5, 6, 7, 8], [0, 8])])
def lin_Sum.B7 : List Nat := [0, 0, 0, 0, 12, 28, 62, 126, 255, 511]
theorem lin_Sum.tab7 : rtab .any (opsOf Try.f112 7) = lin_Sum.T7 := by kernel_rfl
theorem lin_Sum.bits7 : waitsOk lin_Sum.T7.2 lin_Sum.B7 = true := by kernel_rfl
set_option maxHeartbeats 8000000 in
set_option maxRecDepth 100000 in
theorem lin_Sum.calls (k : Nat) (P0_ : Nat → Prop) (A0 : Option Addr) (c0 : Nat) (l0 : List (S62)) (A1 : Option Addr) (c1 : Nat) (l1 : List Int) (r1 : Int) (r2 : List (S68)) (r3 : Int) (w : World) (hs0 : Kd.V k62 62 w w.heap.size (fun k_ => P0_ k_) (.slice A0 l0.length c0) l0) (hr1 : Kd.C (Kd.int .i64) w A1 l1.length l1) (hc1 : l1.length ≤ c1) (h : lin_Sum.f k l0 l1 = some (r1, r2, r3)) :
  Calls Try.prog 112 #[.slice A0 l0.length c0, .slice A1 l1.length c1] w fun e w' => ∃ v1_ : Value, e = .returned (.tuple #[.agg #[.int .i64 r1, v1_], .int .i64 r3]) ∧ Kd.R k68 68 w' w.heap.size (fun k_ => (w.heap.size ≤ k_)) v1_ r2 ∧ Below w.heap.size w w' := by
 have hu62 := Try.underlying62
 have hu158 := Try.underlying158
 have HO0 := zK (show Kd.V k62 62 w w.heap.size (fun k_ => (P0_ k_ ∨ w.heap.size ≤ k_)) (.slice A0 l0.length c0) l0 from vM hs0 (fun k_ hk => .inl hk))
 have HR1 := zK hr1
 have HC1 := zK hc1; clear hr1 hc1
 have HB := zK (Below.refl w.heap.size w)
 have H : ((lin_right.f k l0).bind fun t213 => (if t213 = true then (lin_Sum.j0 k l0 l1 ((l0.length : Int) != (l1.length : Int))) else (lin_Sum.j0 k l0 l1 true))) = some (r1, r2, r3) := h
 clear h
 have HC3 := zK H; clear H
 go_enter Try.func112, Try.ntmps112
 go_upto_region 1 with (first | ((with_reducible refine gate_dst (N := 4) rfl ?_); (try (refine zG (by rfl) ?_; dsimp only)); refine box_event ?hg (N := 4) ?hd (cs := #[.int .i64 0, .slice none 0 0]) (t := 62) ?hr ?_; (case hd => rfl); (case hg => rfl); (case hr => first | (go_simp; done) | (go_simp; rfl)); intro gb212 hg w4 hbox hb; replace HO0 := zK (Kd.V_below (Kd.V_elderB (zv HO0) gb212 (Nat.le_of_eq hg.symm)) hb); have BK212 := zK (hbox); have GW212 := zK ((by rw [hg]; exact (below_size (zo HB)) : w.heap.size ≤ gb212)); have GE212 := zK ((by rw [hg]; exact (below_size (zo HB)) : w.heap.size ≤ gb212)); replace HB := zK (below_step (zo HB) hb); clear hb hbox hg))
 (try simp only [Act.put, zt, zz, zs])
 go_cut [18] (fun v18 wc => ∃ (kq : Nat) (x18_2 : Bool), v18 = .bool x18_2 ∧ Aside0 (lin_Sum.j0 kq l0 l1 x18_2 = some (r1, r2, r3)) ∧ Aside0 (kq ≤ k) ∧ Aside0 (Kd.V k62 62 wc w.heap.size (fun k_ => (P0_ k_ ∨ w.heap.size ≤ k_) ∧ k_ ≠ gb212) (.slice A0 l0.length c0) l0) ∧ Aside0 (wc.heap[gb212]? = some (.cells #[.int .i64 0, (.slice none 0 0)] 62 (0, 0))) ∧ Aside0 (Below w.heap.size w wc))
 case first =>
  have H := HC3.out; clear HC3; replace H := Option.bind_eq_some_iff.mp H
  obtain ⟨t213, A50, H⟩ := H
  replace H : (if t213 = true then (lin_Sum.j0 k l0 l1 ((l0.length : Int) != (l1.length : Int))) else (lin_Sum.j0 k l0 l1 true)) = some (r1, r2, r3) := H
  have A5 := zK A50; clear A50
  by_cases c6 : t213 = true
  ·subst c6
   have H1 : (lin_Sum.j0 k l0 l1 ((l0.length : Int) != (l1.length : Int))) = some (r1, r2, r3) := by rw [if_pos rfl] at H; exact H
   clear H; have H := H1; clear H1
   have H' := zK H; clear H
   go_wp2_with (first | ((with_reducible refine zC (f := 87) rfl ?_); refine goesL_ (some 10) rfl rfl Try.func87 (by kernel_rfl) rfl #[.slice A0 l0.length c0] rfl (by (try simp only [List.map_toArray, List.map_cons, List.map_nil]); first | done | rfl | (simp only [List.length_drop, List.length_take]; rfl)) ?_; (with_reducible refine (lin_right.calls k _ _ l0 true _ ?side1 ?side2 A5.out).mono ?_); (case side1 => repeat (first | exact (Kd.V_reads' HO0.out).2.2 | (with_reducible refine cA ?_ _) | (with_reducible refine cN ?_ _) | (with_reducible refine cD ?_))); (case side2 => exact (Kd.V_reads' HO0.out).2.1); rintro e w7 ⟨rfl, hb⟩; refine ⟨_, rfl, ?_⟩; replace HO0 := zK (Kd.V_below (zv HO0) hb); replace BK212 := zK (blk_below (g := gb212) (o := .cells #[.int .i64 0, .slice none 0 0] 62 (0, 0)) (zb BK212) hb); replace HB := zK (below_step (zo HB) hb); (try clear hb); (try clear hb2); (try clear hk); (try clear hi)))
   go_meet
   case rel => exact ⟨_, (((l0.length : Int) != (l1.length : Int))), (by first | rfl | (simp; done) | (simp [*]; done)), H', ⟨by first | omega | exact Nat.le_refl _⟩, ⟨zv HO0⟩, ⟨zb BK212⟩, ⟨zo HB⟩⟩
  ·replace c6 := Bool.eq_false_iff.mpr c6
   subst c6
   have H1 : (lin_Sum.j0 k l0 l1 true) = some (r1, r2, r3) := by rw [if_neg (show ¬ (false = true) by decide)] at H; exact H
   clear H; have H := H1; clear H1
   have H' := zK H; clear H
   go_wp2_with (first | ((with_reducible refine zC (f := 87) rfl ?_); refine goesL_ (some 10) rfl rfl Try.func87 (by kernel_rfl) rfl #[.slice A0 l0.length c0] rfl (by (try simp only [List.map_toArray, List.map_cons, List.map_nil]); first | done | rfl | (simp only [List.length_drop, List.length_take]; rfl)) ?_; (with_reducible refine (lin_right.calls k _ _ l0 false _ ?side1 ?side2 A5.out).mono ?_); (case side1 => repeat (first | exact (Kd.V_reads' HO0.out).2.2 | (with_reducible refine cA ?_ _) | (with_reducible refine cN ?_ _) | (with_reducible refine cD ?_))); (case side2 => exact (Kd.V_reads' HO0.out).2.1); rintro e w8 ⟨rfl, hb⟩; refine ⟨_, rfl, ?_⟩; replace HO0 := zK (Kd.V_below (zv HO0) hb); replace BK212 := zK (blk_below (g := gb212) (o := .cells #[.int .i64 0, .slice none 0 0] 62 (0, 0)) (zb BK212) hb); replace HB := zK (below_step (zo HB) hb); (try clear hb); (try clear hb2); (try clear hk); (try clear hi)))
   go_meet
   case rel => exact ⟨_, (true), (by first | rfl | (simp; done) | (simp [*]; done)), H', ⟨by first | omega | exact Nat.le_refl _⟩, ⟨zv HO0⟩, ⟨zb BK212⟩, ⟨zo HB⟩⟩
 case rest =>
  clear HC3; try clear c1; try clear p2; try clear c6; try clear c8
  obtain ⟨kq, x18_2, rfl, HA, HJ2, HO_0, BK212, HB⟩ := hcut
  cases kq with
  | zero => exact absurd HA.out (by simp [lin_Sum.j0])
  | succ kj2 =>
   have H := HA.out; clear HA
   simp only [lin_Sum.j0] at H
   by_cases c9 : x18_2 = true
   ·subst c9
    have H1 : (some (0, ([] : List (S68)), 1)) = some (r1, r2, r3) := by rw [if_pos rfl] at H; exact H
    clear H; have H := H1; clear H1
    simp only [Option.some.injEq, Prod.mk.injEq] at H
    obtain ⟨rfl, rfl, rfl⟩ := H
    have hcz10_0 : wc.cell? ⟨gb212, 0, none⟩ = some (.int .i64 0) := (blk_cell BK212.out 0).trans rfl
    have hcz10_1 : wc.cell? ⟨gb212, 1, none⟩ = some (.slice none 0 0) := (blk_cell BK212.out 1).trans rfl
    have hfz10_0 := blk_frozen BK212.out 0
    have hfz10_1 := blk_frozen BK212.out 1
    go_wp2
    refine bodyPost_ret (results_ct rfl _ _ gb212 62 #[.int .i64 0, .slice none 0 0] (0, 0) _ rfl (by refine zM ?_; refine blk_put (cs := #[.int .i64 0, .slice none 0 0]) ?_ 1 _ rfl; refine zM ?_; refine blk_put (cs := #[.int .i64 0, .slice none 0 0]) ?_ 0 _ rfl; refine zM ?_; exact BK212.out) Try.underlying62 rfl (by kernel_rfl)) rfl ?_
    exact ⟨_, by first | rfl | (simp [errW_none, errW_some] <;> rfl) | (simp [*, errW_none, errW_some] <;> rfl), by first | exact Kd.R_nil _ _ _ _ _ | exact Kd.N_nil _ _ _ _ _ | exact Kd.V_nil _ _ _ _ _ | exact Kd.Q_nil _ _ _ _ _ | exact Kd.S_nil _ _ _ _ _, zo HB⟩
   ·replace c9 := Bool.eq_false_iff.mpr c9
    subst c9
    have H1 : (lin_Sum.l0 kj2 l1 ([] : List (S158)) l0 (l0.length : Int) 0) = some (r1, r2, r3) := by rw [if_neg (show ¬ (false = true) by decide)] at H; exact H
    clear H; have H := H1; clear H1
    have H' := zK H; clear H
    go_wp2
    go_loopg [6, 22] kj2 (fun kq v6 v22 w' => ∃ (x6_2 : List (S158)) (x22_2 : Int), v22 = .int .i64 x22_2 ∧ Aside0 (lin_Sum.l0 kq l1 x6_2 l0 (l0.length : Int) x22_2 = some (r1, r2, r3)) ∧ Aside0 (kq ≤ kj2) ∧ Aside0 (Kd.N k158 158 w' w.heap.size (fun k_ => (P0_ k_ ∨ w.heap.size ≤ k_) ∧ k_ ≠ gb212) v6 x6_2) ∧ Aside0 (Kd.V k62 62 w' w.heap.size (fun k_ => (P0_ k_ ∨ w.heap.size ≤ k_) ∧ some k_ ≠ (v6 : Value).ownBlock ∧ k_ ≠ gb212) (.slice A0 l0.length c0) l0) ∧ Aside0 (w'.heap[gb212]? = some (.cells #[.int .i64 0, (.slice none 0 0)] 62 (0, 0))) ∧ Aside0 (Below w.heap.size w w'))
    case atStart => exact ⟨(([] : List (S158))), (0), (by first | rfl | (simp; done) | (simp [*]; done)), H', ⟨Nat.le_refl _⟩, ⟨by first | exact Kd.S_nil _ _ _ _ _ | exact Kd.N_nil _ _ _ _ _ | exact Kd.V_nil _ _ _ _ _ | exact Kd.Q_nil _ _ _ _ _ | exact Kd.R_nil _ _ _ _ _⟩, ⟨by (with_reducible repeat (first | apply vA | apply vN | apply vD)); exact vM HO_0.out (fun _ hk => ⟨hk.1, ⟨(by simp [Value.ownBlock]), hk.2⟩⟩)⟩, ⟨zb BK212⟩, ⟨zo HB⟩⟩
    case round =>
     clear H'; try clear c1; try clear p2; try clear c6
     try clear c8; try clear c9; try clear hcz10_0; try clear hcz10_1; try clear hfz10_0; try clear hfz10_1; try clear p2
     obtain ⟨x6_2, x22_2, rfl, HA, HK2, HO_6, HO_20, BK212, HB⟩ := hrel
     cases gk with
     | zero => exact absurd HA.out (by simp [lin_Sum.l0])
     | succ k2 =>
      have H := HA.out; clear HA
      simp only [lin_Sum.l0] at H
      by_cases c11 : x22_2 < (l0.length : Int)
      ·rw [if_pos c11] at H
       have c11b0 : decide (x22_2 < (l0.length : Int)) = true := decide_eq_true c11
       clear c11
       by_cases c12 : 0 ≤ x22_2
       ·rw [if_pos c12] at H
        have c12b0 : decide (0 ≤ x22_2) = true := decide_eq_true c12; clear c12
        by_cases c13 : x22_2 < (l0.length : Int)
        ·rw [if_pos c13] at H
         have c13b0 : decide (x22_2 < (l0.length : Int)) = true := decide_eq_true c13
         clear c13
         by_cases c14 : x22_2 < (l1.length : Int)
         ·rw [if_pos c14] at H
          have c14b0 : decide (x22_2 < (l1.length : Int)) = true := decide_eq_true c14
          clear c14
          by_cases c15 : x6_2.length < 3518437208883
          ·rw [if_pos c15] at H
           have LMc15 := zK c15; clear c15
           obtain ⟨y217, hy217⟩ : ∃ y_ : List (S158), y_ = (x6_2 ++ [(⟨(⟨(rd_T62 l0 x22_2).f0, (rd_T62 l0 x22_2).f1⟩ : S62), rd l1 x22_2⟩ : S158)]) := ⟨_, rfl⟩
           replace H : (lin_Sum.l0 k2 l1 y217 l0 (l0.length : Int) (wrap64 (x22_2 + 1))) = some (r1, r2, r3) := by first | (rw [hy217]; with_reducible exact H) | (have H2_ := (Option.bind_some _ _).symm.trans H; rw [hy217]; with_reducible exact H2_) | (have H2_ := (Option.bind_some _ _).symm.trans H; with_reducible exact H2_) | with_reducible exact H | (rw [hy217]; exact H) | exact H
           have Ny217 := zK hy217; clear hy217
           have H' := zK H; clear H
           have p214 : 0 ≤ (x22_2 : Int) := of_decide_eq_true (by first | (with_reducible assumption) | assumption)
           have q214 : x22_2 < (l0.length : Int) := of_decide_eq_true (by first | (with_reducible assumption) | assumption)
           obtain ⟨ad214, A214_1, c214_1, e214, hx214_0, hx214_1, hl214_1, hi214_1⟩ := at_T62 (Kd.V_reads' HO_20.out).2.2 x22_2 p214 q214
           cases e214
           obtain ⟨ce214, hce214, hMe214, hcc214⟩ := Kd.V_get HO_20.out z62 x22_2 p214 (by first | exact q214 | exact of_decide_eq_true (by first | (with_reducible assumption) | assumption) | (have e_ := (Kd.V_reads' HO_20.out).1; omega))
           obtain ⟨ua214_1, uc214_1, rfl, ul214_1, ge214_1⟩ := k62_openF hMe214
           have hv214_1 := hcc214 1 _ rfl
           rw [add_field _ _ 1 (by omega)] at hv214_1
           replace hv214_1 := Option.some.inj (hv214_1.symm.trans hx214_1)
           injection hv214_1 with hva_ hvn_ hvc_
           rw [hva_] at ge214_1
           rw [hvc_] at ul214_1
           have HL214_1 := zK (show Kd.V k68 68 _ w.heap.size _ _ ((rd_T62 l0 x22_2).f1) from Kd.V_mk ul214_1 ge214_1)
           clear hva_ hvn_ hvc_ ge214_1 ul214_1 hcc214 hce214
           have HR214_1 := zK hi214_1
           have HC214_1 := zK hl214_1; clear hi214_1 hl214_1
           replace p214 := eq_true p214
           replace q214 := eq_true q214
           try go_wp2_with (first | ((with_reducible refine gate_dst (N := 8) rfl ?_); (try (refine zG (by rfl) ?_; dsimp only)); refine box_event ?hg (N := 8) ?hd (cs := #[.int .i64 0, .slice none 0 0]) (t := 62) ?hr ?_; (case hd => rfl); (case hg => rfl); (case hr => first | (go_simp; done) | (go_simp; rfl)); intro gb215 hg w16 hbox hb; replace HO_6 := zK (Kd.N_below (Kd.N_elderB (zn HO_6) gb215 (Nat.le_of_eq hg.symm)) hb); replace HO_20 := zK (Kd.V_below (Kd.V_elderB (zv HO_20) gb215 (Nat.le_of_eq hg.symm)) hb); replace HL214_1 := zK (Kd.V_below (Kd.V_elderB (zv HL214_1) gb215 (Nat.le_of_eq hg.symm)) hb); replace HR214_1 := zK (Kd.C_below (by repeat (first | (with_reducible exact HR214_1.out) | (with_reducible refine cA ?_ _) | (with_reducible refine cN ?_ _) | (with_reducible refine cD ?_) | exact HR214_1.out)) hb); have BK215 := zK (hbox); have GW215 := zK ((by rw [hg]; exact (below_size (zo HB)) : w.heap.size ≤ gb215)); have GE215 := zK ((by rw [hg]; exact (below_size (zo HB)) : w.heap.size ≤ gb215)); replace HB := zK (below_step (zo HB) hb); have NB212_215 := zK ((by rw [hg]; exact Nat.ne_of_lt (blk_lt (g := gb212) (o := .cells #[.int .i64 0, .slice none 0 0] 62 (0, 0)) (zb BK212)) : gb212 ≠ gb215)); have NB215_212 := zK ((by rw [hg]; exact Nat.ne_of_gt (blk_lt (g := gb212) (o := .cells #[.int .i64 0, .slice none 0 0] 62 (0, 0)) (zb BK212)) : gb215 ≠ gb212)); replace BK212 := zK (blk_below (g := gb212) (o := .cells #[.int .i64 0, .slice none 0 0] 62 (0, 0)) (zb BK212) hb); clear hb hbox hg; have hnb17 := NB215_212.out; have hnc17 := NB212_215.out; have hcz18_0 : w16.cell? ⟨gb215, 0, none⟩ = some (.int .i64 0) := (blk_cell BK215.out 0).trans rfl; have hcz18_1 : w16.cell? ⟨gb215, 1, none⟩ = some (.slice none 0 0) := (blk_cell BK215.out 1).trans rfl; have hfz18_0 := blk_frozen BK215.out 0; have hfz18_1 := blk_frozen BK215.out 1))
           have n0_ : Aside0 (Kd.N k158 158 ((w16.setCell ⟨gb215, 0, none⟩ (.int .i64 ((rd_T62 l0 x22_2).f0))).setCell ⟨gb215, 1, none⟩ (.slice A214_1 ((rd_T62 l0 x22_2).f1).length c214_1)) w.heap.size (fun k_ => (P0_ k_ ∨ w.heap.size ≤ k_) ∧ k_ ≠ gb212 ∧ k_ ≠ gb215) u6 x6_2) := ⟨by (with_reducible repeat (first | apply nA | apply nN | apply nD)); exact Kd.N_mono (Kd.N_far (p := ⟨gb215, 1, none⟩) (Kd.N_far (p := ⟨gb215, 0, none⟩) (Kd.N_mono HO_6.out (fun k_ hk => (⟨hk, hk.2⟩ : _ ∧ k_ ≠ gb215))) (fun _ hk => hk.2) (.int .i64 ((rd_T62 l0 x22_2).f0))) (fun _ hk => hk.2) (.slice A214_1 ((rd_T62 l0 x22_2).f1).length c214_1)) (fun _ hk => ⟨hk.1.1.1, ⟨hk.1.1.2, hk.1.2⟩⟩)⟩
           have n1_ : Aside0 (Kd.V k62 62 ((w16.setCell ⟨gb215, 0, none⟩ (.int .i64 ((rd_T62 l0 x22_2).f0))).setCell ⟨gb215, 1, none⟩ (.slice A214_1 ((rd_T62 l0 x22_2).f1).length c214_1)) w.heap.size (fun k_ => (P0_ k_ ∨ w.heap.size ≤ k_) ∧ some k_ ≠ (u6 : Value).ownBlock ∧ k_ ≠ gb212 ∧ k_ ≠ gb215) (.slice (some ad214) l0.length c0) l0) := ⟨by (with_reducible repeat (first | apply vA | apply vN | apply vD)); exact vM (vF (p := ⟨gb215, 1, none⟩) (vF (p := ⟨gb215, 0, none⟩) (vM HO_20.out (fun k_ hk => (⟨hk, hk.2⟩ : _ ∧ k_ ≠ gb215))) (fun _ hk => hk.2) (.int .i64 ((rd_T62 l0 x22_2).f0))) (fun _ hk => hk.2) (.slice A214_1 ((rd_T62 l0 x22_2).f1).length c214_1)) (fun _ hk => ⟨hk.1.1.1, ⟨hk.1.1.2.1, ⟨hk.1.1.2.2, hk.1.2⟩⟩⟩)⟩
           have n2_ : Aside0 (Kd.V k68 68 ((w16.setCell ⟨gb215, 0, none⟩ (.int .i64 ((rd_T62 l0 x22_2).f0))).setCell ⟨gb215, 1, none⟩ (.slice A214_1 ((rd_T62 l0 x22_2).f1).length c214_1)) w.heap.size (fun k_ => (P0_ k_ ∨ w.heap.size ≤ k_) ∧ some k_ ≠ (u6 : Value).ownBlock ∧ k_ ≠ gb212 ∧ k_ ≠ gb215) (.slice A214_1 ((rd_T62 l0 x22_2).f1).length c214_1) ((rd_T62 l0 x22_2).f1)) := ⟨by (with_reducible repeat (first | apply vA | apply vN | apply vD)); exact vM (vF (p := ⟨gb215, 1, none⟩) (vF (p := ⟨gb215, 0, none⟩) (vM HL214_1.out (fun k_ hk => (⟨hk, hk.2⟩ : _ ∧ k_ ≠ gb215))) (fun _ hk => hk.2) (.int .i64 ((rd_T62 l0 x22_2).f0))) (fun _ hk => hk.2) (.slice A214_1 ((rd_T62 l0 x22_2).f1).length c214_1)) (fun _ hk => ⟨hk.1.1.1, ⟨hk.1.1.2.1, ⟨hk.1.1.2.2, hk.1.2⟩⟩⟩)⟩
           have n3_ : Aside0 (((w16.setCell ⟨gb215, 0, none⟩ (.int .i64 ((rd_T62 l0 x22_2).f0))).setCell ⟨gb215, 1, none⟩ (.slice A214_1 ((rd_T62 l0 x22_2).f1).length c214_1)).heap[gb212]? = some (.cells #[.int .i64 0, .slice none 0 0] 62 (0, 0))) := ⟨zb BK212⟩
           have n4_ : Aside0 (((w16.setCell ⟨gb215, 0, none⟩ (.int .i64 ((rd_T62 l0 x22_2).f0))).setCell ⟨gb215, 1, none⟩ (.slice A214_1 ((rd_T62 l0 x22_2).f1).length c214_1)).heap[gb215]? = some (.cells #[.int .i64 ((rd_T62 l0 x22_2).f0), .slice A214_1 ((rd_T62 l0 x22_2).f1).length c214_1] 62 (0, 0))) := ⟨by refine zM ?_; refine blk_put (cs := #[.int .i64 ((rd_T62 l0 x22_2).f0), .slice none 0 0]) ?_ 1 _ rfl; refine zM ?_; refine blk_put (cs := #[.int .i64 0, .slice none 0 0]) ?_ 0 _ rfl; refine zM ?_; exact BK215.out⟩
           have n5_ : Aside0 (Below w.heap.size w ((w16.setCell ⟨gb215, 0, none⟩ (.int .i64 ((rd_T62 l0 x22_2).f0))).setCell ⟨gb215, 1, none⟩ (.slice A214_1 ((rd_T62 l0 x22_2).f1).length c214_1))) := ⟨zo HB⟩
           (try clear HO_6)
           (try clear HO_20)
           (try clear HL214_1)
           (try clear BK212)
           (try clear BK215)
           (try clear HB)
           generalize ((w16.setCell ⟨gb215, 0, none⟩ (.int .i64 ((rd_T62 l0 x22_2).f0))).setCell ⟨gb215, 1, none⟩ (.slice A214_1 ((rd_T62 l0 x22_2).f1).length c214_1)) = w19 at n0_ n1_ n2_ n3_ n4_ n5_ ⊢
           have HO_6 := n0_
           have HO_20 := n1_
           have HL214_1 := n2_
           have BK212 := n3_
           have BK215 := n4_
           have HB := n5_; clear n0_ n1_ n2_ n3_ n4_ n5_
           replace HO_6 := zK (nD HO_6.out)
           replace HO_20 := zK (vD HO_20.out)
           replace HL214_1 := zK (vD HL214_1.out)
           replace BK212 := zK (zD BK212.out)
           replace BK215 := zK (zD BK215.out)
           replace HB := zK (yD HB.out)
           have p216 : 0 ≤ (x22_2 : Int) := of_decide_eq_true (by first | (with_reducible assumption) | assumption)
           have q216 : x22_2 < (l1.length : Int) := of_decide_eq_true (by first | (with_reducible assumption) | assumption)
           obtain ⟨ad216, e216, hx216_0⟩ := Kd.at_int HR1.out x22_2 p216 q216
           have hw216_0 := hx216_0
           cases e216
           replace hx216_0 := (HB.out.cell (World.block_lt_of_cell? w _ hx216_0)).trans hx216_0
           replace p216 := eq_true p216
           replace q216 := eq_true q216
           refine start_ (n := 10) (S := fun w' => w'.cell? ⟨gb215, 0, none⟩ = some (.int .i64 ((rd_T62 l0 x22_2).f0)) ∧ w'.cell? ⟨gb215, 1, none⟩ = some (.slice A214_1 ((rd_T62 l0 x22_2).f1).length c214_1) ∧ w'.cell? (ad216.add (x22_2).toNat) = some (.int .i64 (rd l1 x22_2))) (ds := []) #[F_,F_,F_,F_,F_,F_,F_,F_,F_,F_] (by kernel_rfl) rfl rfl ⟨(blk_cell BK215.out 0).trans rfl, (blk_cell BK215.out 1).trans rfl, ((HB.out.cell (World.block_lt_of_cell? w _ hw216_0)).trans hw216_0)⟩ (fun hHeld => ?_); refine with_tabW lin_Sum.tab7 lin_Sum.bits7 (fun HT_ HW_ => ?_)
           generalize w19.drew = w20 at HO_6 HO_20 HL214_1 BK212 BK215 HB hx216_0 hHeld ⊢
           refine pure_ (i := 0) (N := some 27) (v := ?_) (a' := ?_) #[T_,F_,F_,F_,F_,F_,F_,F_,F_,F_] rfl rfl (any_of HT_.out (by kernel_rfl)) (fun _ _ _ h => h) (Or.inl ⟨by rfl, ?_⟩) ?_ ?_; rotate_left; (intro w'; go_simp; with_reducible rfl); rotate_left; (simp only [Act.put, zt, zz, zs, i64_w, i32_w]; rfl)
           refine pure_ (i := 2) (N := some 29) (v := ?_) (a' := ?_) #[T_,F_,T_,F_,F_,F_,F_,F_,F_,F_] rfl rfl (any_of HT_.out (by kernel_rfl)) (fun _ _ _ h => h) (Or.inl ⟨by rfl, ?_⟩) ?_ ?_; rotate_left; (intro w'; go_simp; with_reducible rfl); rotate_left; (simp only [Act.put, zt, zz, zs, i64_w, i32_w]; rfl)
           refine pure_ (i := 3) (N := some 30) (v := ?_) (a' := ?_) #[T_,F_,T_,T_,F_,F_,F_,F_,F_,F_] rfl rfl (any_of HT_.out (by kernel_rfl)) (fun _ _ _ h => h) (Or.inl ⟨by rfl, ?_⟩) ?_ ?_; rotate_left; (intro w'; go_simp; with_reducible rfl); rotate_left; (simp only [Act.put, zt, zz, zs, i64_w, i32_w]; rfl)
           refine pure_ (i := 4) (N := some 31) (v := ?_) (a' := ?_) #[T_,F_,T_,T_,T_,F_,F_,F_,F_,F_] rfl rfl (any_of HT_.out (by kernel_rfl)) (fun _ _ _ h => h) (Or.inl ⟨by rfl, ?_⟩) ?_ ?_; rotate_left; (intro w'; go_simp; with_reducible rfl); rotate_left; (simp only [Act.put, zt, zz, zs, i64_w, i32_w]; rfl)
           refine take_ (i := 1) (N := some 28) (v := ?_) (a' := ?_) #[T_,T_,T_,T_,T_,F_,F_,F_,F_,F_] rfl rfl (take_ofW HT_.out HW_.out (by kernel_rfl)) (fun _ _ _ h => h) (Or.inl ⟨by rfl, ?_⟩) hHeld ?_ ?_; rotate_left; (rintro w' ⟨s0, s1, s2⟩; go_simp; with_reducible rfl); rotate_left; (simp only [Act.put, zt, zz, zs, i64_w, i32_w]; rfl)
           refine take_ (i := 5) (N := some 32) (v := ?_) (a' := ?_) #[T_,T_,T_,T_,T_,T_,F_,F_,F_,F_] rfl rfl (take_ofW HT_.out HW_.out (by kernel_rfl)) (fun _ _ _ h => h) (Or.inl ⟨by rfl, ?_⟩) hHeld ?_ ?_; rotate_left; (rintro w' ⟨s0, s1, s2⟩; go_simp; with_reducible rfl); rotate_left; (simp only [Act.put, zt, zz, zs, i64_w, i32_w]; rfl)
           refine pure_ (i := 6) (N := some 33) (v := ?_) (a' := ?_) #[T_,T_,T_,T_,T_,T_,T_,F_,F_,F_] rfl rfl (any_of HT_.out (by kernel_rfl)) (fun _ _ _ h => h) (Or.inl ⟨by rfl, ?_⟩) ?_ ?_; rotate_left; (intro w'; go_simp; with_reducible rfl); rotate_left; (simp only [Act.put, zt, zz, zs, i64_w, i32_w]; rfl)
           refine one_ (i := 7) (N := some 34) #[T_,T_,T_,T_,T_,T_,T_,T_,F_,F_] rfl rfl (one_of HT_.out (by kernel_rfl)) (by decide) (fun K hK => ?_)
           refine value_ (w1 := ?_) (v := ?_) (by rfl) rfl ?_ ?_
           rotate_left 2
           ·go_simp
            constructor
            ·rfl
            ·rfl
           refine hK.out _ _ ⟨(blk_cell (zA BK215.out _) 0).trans rfl, (blk_cell (zA BK215.out _) 1).trans rfl, (World.cell?_alloc_lt _ _ _ (World.block_lt_of_cell? _ _ (((HB.out.cell (World.block_lt_of_cell? w _ hw216_0)).trans hw216_0)))).trans (((HB.out.cell (World.block_lt_of_cell? w _ hw216_0)).trans hw216_0))⟩ (fun hHeld => ?_)
           clear hK K
           refine norm_ (a' := ?_) ?_ ?_; rotate_left; (show Act.put _ (some 34) _ = _; simp only [Act.put, zt, zz, zs, i64_w, i32_w]; rfl)
           refine one_ (i := 8) (N := some 35) #[T_,T_,T_,T_,T_,T_,T_,T_,T_,F_] rfl rfl (one_of HT_.out (by kernel_rfl)) (by decide) (fun K hK => ?_)
           refine Kd.N_append_step k158 (w0 := w) w.heap.size (by rfl) (.tmp 27) (.tmp 34) 156 158 (.agg #[(.int .i64 0), (.slice none 0 0), (.int .i64 0)]) 40 rfl Try.underlying156 info158 rfl (by decide) (by omega) u6 x6_2 (⟨(⟨(rd_T62 l0 x22_2).f0, (rd_T62 l0 x22_2).f1⟩ : S62), rd l1 x22_2⟩ : S158) [.int .i64 ((rd_T62 l0 x22_2).f0), .slice A214_1 ((rd_T62 l0 x22_2).f1).length c214_1, .int .i64 (rd l1 x22_2)] (fun k_ => (P0_ k_ ∨ w.heap.size ≤ k_) ∧ k_ ≠ gb212 ∧ k_ ≠ gb215) (fun k_ => ((fun k_ => (P0_ k_ ∨ w.heap.size ≤ k_) ∧ k_ ≠ gb212 ∧ k_ ≠ gb215)) k_ ∧ some k_ ≠ (u6 : Value).ownBlock) rfl rfl ?aP (fun _ hk => hk) ?aF ?aO ?aB ?aS ?aL ?_
           (case aP => exact (k158_mkF _ _ (⟨(⟨(rd_T62 l0 x22_2).f0, (rd_T62 l0 x22_2).f1⟩ : S62), rd l1 x22_2⟩ : S158) (Kd.V_reads' (vM (ok' := (fun k_ => ((fun k_ => (P0_ k_ ∨ w.heap.size ≤ k_) ∧ k_ ≠ gb212 ∧ k_ ≠ gb215)) k_ ∧ some k_ ≠ (u6 : Value).ownBlock)) (HL214_1.out) (fun k_ hk => ⟨⟨hk.1, ⟨hk.2.2.1, hk.2.2.2⟩⟩, hk.2.1⟩))).2.1 (Kd.V_F (vM (ok' := (fun k_ => ((fun k_ => (P0_ k_ ∨ w.heap.size ≤ k_) ∧ k_ ≠ gb212 ∧ k_ ≠ gb215)) k_ ∧ some k_ ≠ (u6 : Value).ownBlock)) (HL214_1.out) (fun k_ hk => ⟨⟨hk.1, ⟨hk.2.2.1, hk.2.2.2⟩⟩, hk.2.1⟩)))))
           (case aB => exact (zo HB))
           (case aF => exact (fun k_ hk => ⟨(.inr (Nat.le_trans (below_size (zo HB)) hk)), Kd.freshB (g := gb212) (o := .cells #[.int .i64 0, .slice none 0 0] 62 (0, 0)) (zb BK212) k_ hk, Kd.freshB (g := gb215) (o := .cells #[.int .i64 ((rd_T62 l0 x22_2).f0), .slice A214_1 ((rd_T62 l0 x22_2).f1).length c214_1] 62 (0, 0)) (zb BK215) k_ hk⟩))
           (case aO => exact (zn HO_6))
           (case aS => exact (below_size (zo HB)))
           (case aL => have := LMc15.out; omega)
           intro v218 w21 ho hb hg hat
           rw [← Ny217.out] at ho
           replace HO_20 := zK (Kd.V_afterv (ok := (fun k_ => (P0_ k_ ∨ w.heap.size ≤ k_) ∧ k_ ≠ gb212 ∧ k_ ≠ gb215)) (by (with_reducible repeat (first | apply vA | apply vN | apply vD)); exact vM HO_20.out (fun _ hk => ⟨⟨hk.1, ⟨hk.2.2.1, hk.2.2.2⟩⟩, hk.2.1⟩)) hg hat)
           replace BK212 := zK (blk_grown (g := gb212) (o := .cells #[.int .i64 0, .slice none 0 0] 62 (0, 0)) (zb BK212) hg (Kd.N_ne HO_6.out BK212.out (by decide)))
           replace HL214_1 := zK (Kd.V_afterv (ok := (fun k_ => (P0_ k_ ∨ w.heap.size ≤ k_) ∧ k_ ≠ gb212 ∧ k_ ≠ gb215)) (by (with_reducible repeat (first | apply vA | apply vN | apply vD)); exact vM HL214_1.out (fun _ hk => ⟨⟨hk.1, ⟨hk.2.2.1, hk.2.2.2⟩⟩, hk.2.1⟩)) hg hat)
           replace BK215 := zK (blk_grown (g := gb215) (o := .cells #[.int .i64 ((rd_T62 l0 x22_2).f0), .slice A214_1 ((rd_T62 l0 x22_2).f1).length c214_1] 62 (0, 0)) (zb BK215) hg (Kd.N_ne HO_6.out BK215.out (by decide)))
           replace HB := zK (hb)
           have HO219 := zK (ho); clear HO_6 ho hb hg hat
           refine hK.out _ _ ⟨(blk_cell BK215.out 0).trans rfl, (blk_cell BK215.out 1).trans rfl, ((HB.out.cell (World.block_lt_of_cell? w _ hw216_0)).trans hw216_0)⟩ (fun hHeld => ?_)
           clear hK K
           refine norm_ (a' := ?_) ?_ ?_; rotate_left; (show Act.put _ (some 35) _ = _; simp only [Act.put, zt, zz, zs, i64_w, i32_w]; rfl)
           refine pure_ (i := 9) (N := some 6) (v := ?_) (a' := ?_) #[T_,T_,T_,T_,T_,T_,T_,T_,T_,T_] rfl rfl (any_of HT_.out (by kernel_rfl)) (fun _ _ _ h => h) (Or.inl ⟨by rfl, ?_⟩) ?_ ?_; rotate_left; (intro w'; go_simp; with_reducible rfl); rotate_left; (simp only [Act.put, zt, zz, zs, i64_w, i32_w]; rfl)
           refine done_ (done_of HT_.out (by kernel_rfl)) ?_
           try go_wp2
           go_roundg k2
           case measure => have := HJ2.out; have := HK2.out; omega
           case rel => exact ⟨(y217), (wrap64 (x22_2 + 1)), (by first | rfl | (simp; done) | (simp [*]; done)), H', ⟨by have := HJ2.out; have := HK2.out; omega⟩, ⟨by (with_reducible repeat (first | apply nA | apply nN | apply nD)); exact Kd.N_mono HO219.out (fun _ hk => ⟨hk.1, hk.2.1⟩)⟩, ⟨by (with_reducible repeat (first | apply vA | apply vN | apply vD)); exact vM HO_20.out (fun _ hk => ⟨hk.1.1, ⟨hk.2, hk.1.2.1⟩⟩)⟩, ⟨zb BK212⟩, ⟨zo HB⟩⟩
          ·rw [if_neg c15] at H
           exact absurd H (by simp)
         ·rw [if_neg c14] at H
          exact absurd H (by simp)
        ·rw [if_neg c13] at H
         exact absurd H (by simp)
       ·rw [if_neg c12] at H
        exact absurd H (by simp)
      ·rw [if_neg c11] at H
       have c11b0 : decide (x22_2 < (l0.length : Int)) = false := decide_eq_false c11
       clear c11; replace H := Option.bind_eq_some_iff.mp H
       obtain ⟨⟨t220, t221, t224⟩, A220, H⟩ := H
       replace H : (some (t220, t221, t224)) = some (r1, r2, r3) := H
       have A22 := zK A220; clear A220
       simp only [Option.some.injEq, Prod.mk.injEq] at H
       obtain ⟨rfl, rfl, rfl⟩ := H
       obtain ⟨Ao23, co23, eo23⟩ := Kd.N_slice HO_6.out
       subst eo23
       go_wp2_with (first | ((with_reducible refine zC (f := 119) rfl ?_); refine goesL_ (some 38) rfl rfl Try.func119 (by kernel_rfl) rfl #[.slice Ao23 x6_2.length co23] rfl (by (try simp only [List.map_toArray, List.map_cons, List.map_nil]); first | done | rfl | (simp only [List.length_drop, List.length_take]; rfl)) ?_; (with_reducible refine (lin_sum.calls _ _ x6_2 t220 t221 t224 _ ?side1 ?side2 A22.out).mono ?_); (case side1 => repeat (first | exact (Kd.N_reads' HO_6.out).2.2 | (with_reducible refine cA ?_ _) | (with_reducible refine cN ?_ _) | (with_reducible refine cD ?_))); (case side2 => exact (Kd.N_reads' HO_6.out).2.1); rintro e w24 ⟨v222, rfl, ho0, hb⟩; refine ⟨_, rfl, ?_⟩; replace HO_6 := zK (Kd.N_elder' (zn HO_6) (Kd.R_base ho0) hb); replace HO_20 := zK (Kd.V_elder' (zv HO_20) (Kd.R_base ho0) hb); have HO223 := zK (Kd.R_lower (Kd.R_newM (M := fun k_ => (w.heap.size ≤ k_)) ho0 (below_size (zo HB)) (fun k_ h_ => h_)) (below_size (zo HB))); replace BK212 := zK (blk_below (g := gb212) (o := .cells #[.int .i64 0, .slice none 0 0] 62 (0, 0)) (zb BK212) hb); replace HB := zK (below_step (zo HB) hb); (try clear hb); (try clear hb2); (try clear hk); (try clear hi); (try clear ho0); have hcz25_0 : w24.cell? ⟨gb212, 0, none⟩ = some (.int .i64 0) := (blk_cell BK212.out 0).trans rfl; have hcz25_1 : w24.cell? ⟨gb212, 1, none⟩ = some (.slice none 0 0) := (blk_cell BK212.out 1).trans rfl; have hfz25_0 := blk_frozen BK212.out 0; have hfz25_1 := blk_frozen BK212.out 1; obtain ⟨Ao26, co26, eo26⟩ := Kd.R_slice HO223.out; subst eo26))
       refine bodyPost_ret (results_ct rfl _ _ gb212 62 #[.int .i64 t220, .slice Ao26 t221.length co26] (0, 0) _ rfl (by refine zM ?_; refine blk_put (cs := #[.int .i64 t220, .slice none 0 0]) ?_ 1 _ rfl; refine zM ?_; refine blk_put (cs := #[.int .i64 0, .slice none 0 0]) ?_ 0 _ rfl; refine zM ?_; exact BK212.out) Try.underlying62 rfl (by kernel_rfl)) rfl ?_
       exact ⟨_, by first | rfl | (simp [errW_none, errW_some] <;> rfl) | (simp [*, errW_none, errW_some] <;> rfl), by (with_reducible repeat (first | apply Kd.R_alloc | apply Kd.R_drewN | apply Kd.R_drew)); exact Kd.R_mono (Kd.R_far (p := ⟨gb212, 1, none⟩) (Kd.R_far (p := ⟨gb212, 0, none⟩) (Kd.R_types HO223.out BK212.out (by decide)) (fun _ hk => hk.2) (.int .i64 t220)) (fun _ hk => hk.2) (.slice Ao26 t221.length co26)) (fun _ hk => hk.1.1), zo HB⟩

/-! ### lin_Scale: function 94 -/
def lin_Scale.f (k : Nat) (a0_0 : Int) (l0_1 : List (S68)) (a1 : Int) : Option (Int × (List (S68)) × Int) := (lin_Sum.f k (([(⟨a0_0, l0_1⟩ : S62)] : List (S62))) (([a1] : List Int))).bind fun bt233 => (some (bt233.1, bt233.2.1, bt233.2.2))
theorem lin_Scale.mono : ∀ a0 a1 a2 k, LeO (lin_Scale.f k a0 a1 a2) (lin_Scale.f (k + 1) a0 a1 a2) := by
 intro a0 a1 a2 k
 unfold lin_Scale.f
 repeat' first
   | (with_reducible exact lin_Sum.mono _ _ _)
   | (with_reducible exact LeO.refl _)
   | (with_reducible exact LeO.none _)
   | (with_reducible refine LeO.ite ?_ ?_)
   | (with_reducible refine LeO.bind ?_ (fun _ => ?_))
   | exact lin_Sum.mono _ _ _
   | exact LeO.none _
   | refine LeO.ite ?_ ?_
   | refine LeO.bind ?_ (fun _ => ?_)
set_option maxHeartbeats 8000000 in
set_option maxRecDepth 100000 in
theorem lin_Scale.calls (k : Nat) (a0_0 : Int) (P0_1_ : Nat → Prop) (A0_1 : Option Addr) (c0_1 : Nat) (l0_1 : List (S68)) (a1 : Int) (r1 : Int) (r2 : List (S68)) (r3 : Int) (w : World) (hs0_1 : Kd.V k68 68 w w.heap.size (fun k_ => P0_1_ k_) (.slice A0_1 l0_1.length c0_1) l0_1) (h : lin_Scale.f k a0_0 l0_1 a1 = some (r1, r2, r3)) :
  Calls Try.prog 94 #[.agg #[.int .i64 a0_0, .slice A0_1 l0_1.length c0_1], .int .i64 a1] w fun e w' => ∃ v1_ : Value, e = .returned (.tuple #[.agg #[.int .i64 r1, v1_], .int .i64 r3]) ∧ Kd.R k68 68 w' w.heap.size (fun k_ => (w.heap.size ≤ k_)) v1_ r2 ∧ Below w.heap.size w w' := by
 have hu62 := Try.underlying62
 have HO0_1 := zK (show Kd.V k68 68 w w.heap.size (fun k_ => (P0_1_ k_ ∨ w.heap.size ≤ k_)) (.slice A0_1 l0_1.length c0_1) l0_1 from vM hs0_1 (fun k_ hk => .inl hk))
 have HB := zK (Below.refl w.heap.size w)
 have H : ((lin_Sum.f k (([(⟨a0_0, l0_1⟩ : S62)] : List (S62))) (([a1] : List Int))).bind fun bt233 => (some (bt233.1, bt233.2.1, bt233.2.2))) = some (r1, r2, r3) := h
 clear h
 obtain ⟨y227, hy227⟩ : ∃ y_ : List (S62), y_ = (([(⟨a0_0, l0_1⟩ : S62)] : List (S62))) := ⟨_, rfl⟩
 replace H : ((lin_Sum.f k y227 (([a1] : List Int))).bind fun bt233 => (some (bt233.1, bt233.2.1, bt233.2.2))) = some (r1, r2, r3) := by first | (rw [hy227]; with_reducible exact H) | (have H2_ := (Option.bind_some _ _).symm.trans H; rw [hy227]; with_reducible exact H2_) | (have H2_ := (Option.bind_some _ _).symm.trans H; with_reducible exact H2_) | with_reducible exact H | (rw [hy227]; exact H) | exact H
 have Ny227 := zK hy227; clear hy227
 obtain ⟨y230, hy230⟩ : ∃ y_ : List Int, y_ = (([a1] : List Int)) := ⟨_, rfl⟩
 replace H : ((lin_Sum.f k y227 y230).bind fun bt233 => (some (bt233.1, bt233.2.1, bt233.2.2))) = some (r1, r2, r3) := by first | (rw [hy230]; with_reducible exact H) | (have H2_ := (Option.bind_some _ _).symm.trans H; rw [hy230]; with_reducible exact H2_) | (have H2_ := (Option.bind_some _ _).symm.trans H; with_reducible exact H2_) | with_reducible exact H | (rw [hy230]; exact H) | exact H
 have Ny230 := zK hy230; clear hy230; replace H := Option.bind_eq_some_iff.mp H
 obtain ⟨⟨t233, t234, t237⟩, A30, H⟩ := H
 replace H : (some (t233, t234, t237)) = some (r1, r2, r3) := H
 have A3 := zK A30; clear A30
 simp only [Option.some.injEq, Prod.mk.injEq] at H
 obtain ⟨rfl, rfl, rfl⟩ := H
 go_enter Try.func94, Try.ntmps94
 go_wp2_with (first | ((with_reducible refine gate_dst (N := 2) rfl ?_); refine box_event ?hg (N := 2) ?hd (cs := #[.int .i64 a0_0, .slice A0_1 l0_1.length c0_1]) (t := 62) ?hr ?_; (case hd => rfl); (case hg => rfl); (case hr => first | (go_simp; done) | (go_simp; rfl)); intro gb225 hg w4 hbox hb; replace HO0_1 := zK (Kd.V_below (Kd.V_elderB (zv HO0_1) gb225 (Nat.le_of_eq hg.symm)) hb); have BK225 := zK (hbox); have GW225 := zK ((by rw [hg]; exact (below_size (zo HB)) : w.heap.size ≤ gb225)); have GE225 := zK ((by rw [hg]; exact (below_size (zo HB)) : w.heap.size ≤ gb225)); replace HB := zK (below_step (zo HB) hb); clear hb hbox hg) | ((with_reducible refine gate_dst (N := 4) rfl ?_); refine box_event ?hg (N := 4) ?hd (cs := #[.int .i64 0, .slice none 0 0]) (t := 62) ?hr ?_; (case hd => rfl); (case hg => rfl); (case hr => first | (go_simp; done) | (go_simp; rfl)); intro gb226 hg w5 hbox hb; replace HO0_1 := zK (Kd.V_below (Kd.V_elderB (zv HO0_1) gb226 (Nat.le_of_eq hg.symm)) hb); have BK226 := zK (hbox); have GW226 := zK ((by rw [hg]; exact (below_size (zo HB)) : w.heap.size ≤ gb226)); have GE226 := zK ((by rw [hg]; exact (below_size (zo HB)) : w.heap.size ≤ gb226)); replace HB := zK (below_step (zo HB) hb); have NB225_226 := zK ((by rw [hg]; exact Nat.ne_of_lt (blk_lt (g := gb225) (o := .cells #[.int .i64 a0_0, .slice A0_1 l0_1.length c0_1] 62 (0, 0)) (zb BK225)) : gb225 ≠ gb226)); have NB226_225 := zK ((by rw [hg]; exact Nat.ne_of_gt (blk_lt (g := gb225) (o := .cells #[.int .i64 a0_0, .slice A0_1 l0_1.length c0_1] 62 (0, 0)) (zb BK225)) : gb226 ≠ gb225)); replace BK225 := zK (blk_below (g := gb225) (o := .cells #[.int .i64 a0_0, .slice A0_1 l0_1.length c0_1] 62 (0, 0)) (zb BK225) hb); clear hb hbox hg; have hnb6 := NB225_226.out; have hnc6 := NB226_225.out; have hcz7_0 : w5.cell? ⟨gb225, 0, none⟩ = some (.int .i64 a0_0) := (blk_cell BK225.out 0).trans rfl; have hcz7_1 : w5.cell? ⟨gb225, 1, none⟩ = some (.slice A0_1 l0_1.length c0_1) := (blk_cell BK225.out 1).trans rfl; have hfz7_0 := blk_frozen BK225.out 0; have hfz7_1 := blk_frozen BK225.out 1) | ((with_reducible refine gate_dst (N := 7) rfl ?_); refine Kd.N_lit k62 _ 62 ?hg (N' := 7) ?hd (xs := ([(⟨a0_0, l0_1⟩ : S62)] : List (S62))) (inner := [.int .i64 a0_0, .slice A0_1 l0_1.length c0_1]) (ok := (fun k_ => (P0_1_ k_ ∨ w.heap.size ≤ k_) ∧ k_ ≠ gb225 ∧ k_ ≠ gb226)) (okp := (fun k_ => (P0_1_ k_ ∨ w.heap.size ≤ k_) ∧ k_ ≠ gb225 ∧ k_ ≠ gb226)) ?hr ?hp (fun _ hk => hk) ((show ∀ k_, w5.heap.size ≤ k_ → (fun k_ => (P0_1_ k_ ∨ w.heap.size ≤ k_) ∧ k_ ≠ gb225 ∧ k_ ≠ gb226) k_ from fun k_ hk => ⟨(.inr (Nat.le_trans (below_size (zo HB)) hk)), Kd.freshB (g := gb225) (o := .cells #[.int .i64 a0_0, .slice A0_1 l0_1.length c0_1] 62 (0, 0)) (zb BK225) k_ hk, Kd.freshB (g := gb226) (o := .cells #[.int .i64 0, .slice none 0 0] 62 (0, 0)) (zb BK226) k_ hk⟩) _ (Nat.le_refl _)) (Below.refl _ _) (Nat.le_refl _) (by simp) ?_; (case hd => rfl); (case hg => rfl); (case hr => first | (go_simp; done) | (go_simp; rfl)); (case hp => exact (Reps.c2 (show Kd.FK k62 _ _ (⟨a0_0, l0_1⟩ : S62) [.int .i64 a0_0, .slice A0_1 l0_1.length c0_1] from (k62_mkF _ _ (⟨a0_0, l0_1⟩ : S62) (Kd.V_reads' (vM (ok' := (fun k_ => (P0_1_ k_ ∨ w.heap.size ≤ k_) ∧ k_ ≠ gb225 ∧ k_ ≠ gb226)) (HO0_1.out) (fun k_ hk => ⟨hk.1.1, ⟨hk.1.2, hk.2⟩⟩))).2.1 (Kd.V_F (vM (ok' := (fun k_ => (P0_1_ k_ ∨ w.heap.size ≤ k_) ∧ k_ ≠ gb225 ∧ k_ ≠ gb226)) (HO0_1.out) (fun k_ hk => ⟨hk.1.1, ⟨hk.1.2, hk.2⟩⟩))))) (Reps.none _ _))); intro v228 w8 ho9 hb hg_ hnew_; clear hg_ hnew_; (first | rw [← Ny227.out] at ho9 | (simp only [Int.reduceToNat] at ho9; rw [← Ny227.out] at ho9)); replace HO0_1 := zK (Kd.V_elder' (zv HO0_1) (Kd.N_base ho9) hb); have HO229 := zK (Kd.N_lower ho9 (below_size (zo HB))); replace BK225 := zK (blk_below (g := gb225) (o := .cells #[.int .i64 a0_0, .slice A0_1 l0_1.length c0_1] 62 (0, 0)) (zb BK225) hb); replace BK226 := zK (blk_below (g := gb226) (o := .cells #[.int .i64 0, .slice none 0 0] 62 (0, 0)) (zb BK226) hb); replace HB := zK (below_step (zo HB) hb); clear hb ho9) | ((with_reducible refine gate_dst (N := 9) rfl ?_); refine Kd.R_lit (Kd.int .i64) _ 2 ?hg (N := 9) ?hd (xs := ([a1] : List Int)) (inner := [.int .i64 a1]) (ok := fun _ => True) (okp := fun _ => True) ?hr ?hp (fun _ hk => hk) trivial (Below.refl _ _) (Nat.le_refl _) (by simp) ?_; (case hd => rfl); (case hg => rfl); (case hr => first | (go_simp; done) | (go_simp; rfl)); (case hp => exact (Reps.one (show Kd.M (Kd.int .i64) _ _ _ a1 [.int .i64 a1] from rfl) (Reps.none _ _))); intro v231 w10 ho11 hb hg_ hnew_; clear hg_ hnew_; (first | rw [← Ny230.out] at ho11 | (simp only [Int.reduceToNat] at ho11; rw [← Ny230.out] at ho11)); replace HO0_1 := zK (Kd.V_elder' (zv HO0_1) (Kd.R_base ho11) hb); replace HO229 := zK (Kd.N_elder' (zn HO229) (Kd.R_base ho11) hb); have HO232 := zK (Kd.R_lower (Kd.R_newM (M := fun k_ => (w.heap.size ≤ k_)) ho11 (below_size (zo HB)) (fun k_ h_ => h_)) (below_size (zo HB))); replace BK225 := zK (blk_below (g := gb225) (o := .cells #[.int .i64 a0_0, .slice A0_1 l0_1.length c0_1] 62 (0, 0)) (zb BK225) hb); replace BK226 := zK (blk_below (g := gb226) (o := .cells #[.int .i64 0, .slice none 0 0] 62 (0, 0)) (zb BK226) hb); replace HB := zK (below_step (zo HB) hb); clear hb ho11; obtain ⟨Ao12, co12, eo12⟩ := Kd.N_slice HO229.out; subst eo12; obtain ⟨Ao13, co13, eo13⟩ := Kd.R_slice HO232.out; subst eo13) | ((with_reducible refine zC (f := 112) rfl ?_); refine goesL_ (some 10) rfl rfl Try.func112 (by kernel_rfl) rfl #[.slice Ao12 y227.length co12, .slice Ao13 y230.length co13] rfl (by (try simp only [List.map_toArray, List.map_cons, List.map_nil]); first | done | rfl | (simp only [List.length_drop, List.length_take]; rfl)) ?_; (with_reducible refine (lin_Sum.calls k (fun k_ => (((P0_1_ k_ ∨ w.heap.size ≤ k_) ∧ (k_ ≠ gb225 ∧ k_ ≠ gb226)) ∧ some k_ ≠ (.slice Ao13 y230.length co13 : Value).ownBlock)) _ _ y227 _ _ y230 t233 t234 t237 _ ?side1 ?side2 ?side3 A3.out).mono ?_); (case side1 => exact Kd.N_V (HO229.out)); (case side2 => repeat (first | exact (Kd.R_reads' HO232.out).2.2 | (with_reducible refine cA ?_ _) | (with_reducible refine cN ?_ _) | (with_reducible refine cD ?_))); (case side3 => exact (Kd.R_reads' HO232.out).2.1); rintro e w14 ⟨v235, rfl, ho0, hb⟩; refine ⟨_, rfl, ?_⟩; replace HO0_1 := zK (Kd.V_elder' (zv HO0_1) (Kd.R_base ho0) hb); replace HO229 := zK (Kd.N_elder' (zn HO229) (Kd.R_base ho0) hb); replace HO232 := zK (Kd.R_below (zr HO232) hb); have HO236 := zK (Kd.R_lower (Kd.R_newM (M := fun k_ => (w.heap.size ≤ k_)) (Kd.R_mono (ok' := fun k_ => True) ho0 (fun _ hk_ => trivial)) (below_size (zo HB)) (fun k_ h_ => h_)) (below_size (zo HB))); replace BK225 := zK (blk_below (g := gb225) (o := .cells #[.int .i64 a0_0, .slice A0_1 l0_1.length c0_1] 62 (0, 0)) (zb BK225) hb); replace BK226 := zK (blk_below (g := gb226) (o := .cells #[.int .i64 0, .slice none 0 0] 62 (0, 0)) (zb BK226) hb); replace HB := zK (below_step (zo HB) hb); (try clear hb); (try clear hb2); (try clear hk); (try clear hi); (try clear ho0); have hcz15_0 : w14.cell? ⟨gb226, 0, none⟩ = some (.int .i64 0) := (blk_cell BK226.out 0).trans rfl; have hcz15_1 : w14.cell? ⟨gb226, 1, none⟩ = some (.slice none 0 0) := (blk_cell BK226.out 1).trans rfl; have hfz15_0 := blk_frozen BK226.out 0; have hfz15_1 := blk_frozen BK226.out 1; obtain ⟨Ao16, co16, eo16⟩ := Kd.R_slice HO236.out; subst eo16))
 refine bodyPost_ret (results_ct rfl _ _ gb226 62 #[.int .i64 t233, .slice Ao16 t234.length co16] (0, 0) _ rfl (by refine zM ?_; refine blk_put (cs := #[.int .i64 t233, .slice none 0 0]) ?_ 1 _ rfl; refine zM ?_; refine blk_put (cs := #[.int .i64 0, .slice none 0 0]) ?_ 0 _ rfl; refine zM ?_; exact BK226.out) Try.underlying62 rfl (by kernel_rfl)) rfl ?_
 exact ⟨_, by first | rfl | (simp [errW_none, errW_some] <;> rfl) | (simp [*, errW_none, errW_some] <;> rfl), by (with_reducible repeat (first | apply Kd.R_alloc | apply Kd.R_drewN | apply Kd.R_drew)); exact Kd.R_mono (Kd.R_far (p := ⟨gb226, 1, none⟩) (Kd.R_far (p := ⟨gb226, 0, none⟩) (Kd.R_types HO236.out BK226.out (by decide)) (fun _ hk => hk.2) (.int .i64 t233)) (fun _ hk => hk.2) (.slice Ao16 t234.length co16)) (fun _ hk => hk.1.1), zo HB⟩

/-! ### shadow_split: function 65 -/
def shadow_split.f (k : Nat) (a0_0 : Int) (l0_1 : List (S68)) (a1 : Int) (a2 : Int) : Option (Int × (List (S68)) × Bool) := (lin_Scale.f k a0_0 l0_1 (-1)).bind fun bt240 => (if bt240.2.2 = 0 then ((num_Sub.f bt240.1 a2).bind fun bt246 => (some (bt246.1, bt240.2.1, bt246.2))) else (some (0, ([] : List (S68)), false)))
theorem shadow_split.mono : ∀ a0 a1 a2 a3 k, LeO (shadow_split.f k a0 a1 a2 a3) (shadow_split.f (k + 1) a0 a1 a2 a3) := by
 intro a0 a1 a2 a3 k
 unfold shadow_split.f
 repeat' first
   | (with_reducible exact lin_Scale.mono _ _ _ _)
   | (with_reducible exact LeO.refl _)
   | (with_reducible exact LeO.none _)
   | (with_reducible refine LeO.ite ?_ ?_)
   | (with_reducible refine LeO.bind ?_ (fun _ => ?_))
   | exact lin_Scale.mono _ _ _ _
   | exact LeO.none _
   | refine LeO.ite ?_ ?_
   | refine LeO.bind ?_ (fun _ => ?_)
set_option maxHeartbeats 8000000 in
set_option maxRecDepth 100000 in
theorem shadow_split.calls (k : Nat) (a0_0 : Int) (A0_1 : Option Addr) (c0_1 : Nat) (l0_1 : List (S68)) (a1 : Int) (a2 : Int) (r1 : Int) (r2 : List (S68)) (r3 : Bool) (w : World) (hr0_1 : Kd.C k68 w A0_1 l0_1.length l0_1) (hc0_1 : l0_1.length ≤ c0_1) (h : shadow_split.f k a0_0 l0_1 a1 a2 = some (r1, r2, r3)) :
  Calls Try.prog 65 #[.agg #[.int .i64 a0_0, .slice A0_1 l0_1.length c0_1], .int .i64 a1, .int .i64 a2] w fun e w' => ∃ v1_ : Value, e = .returned (.tuple #[.agg #[.int .i64 r1, v1_], .bool r3]) ∧ Kd.R k68 68 w' w.heap.size (fun _ => True) v1_ r2 ∧ Below w.heap.size w w' := by
 have hu62 := Try.underlying62
 have HR0_1 := zK hr0_1
 have HC0_1 := zK hc0_1; clear hr0_1 hc0_1
 have HB := zK (Below.refl w.heap.size w)
 have H : ((lin_Scale.f k a0_0 l0_1 (-1)).bind fun bt240 => (if bt240.2.2 = 0 then ((num_Sub.f bt240.1 a2).bind fun bt246 => (some (bt246.1, bt240.2.1, bt246.2))) else (some (0, ([] : List (S68)), false)))) = some (r1, r2, r3) := h
 clear h; replace H := Option.bind_eq_some_iff.mp H
 obtain ⟨⟨t240, t241, t244⟩, A40, H⟩ := H
 replace H : (if t244 = 0 then ((num_Sub.f t240 a2).bind fun bt246 => (some (bt246.1, t241, bt246.2))) else (some (0, ([] : List (S68)), false))) = some (r1, r2, r3) := H
 have A4 := zK A40; clear A40
 by_cases c5 : t244 = 0
 ·rw [if_pos c5] at H
  have c5b0 : (t244 == 0) = true := beq_iff_eq.mpr c5
  have c5b1 : (t244 != 0) = false := bne_eq_false_iff_eq.mpr c5; clear c5
  replace H := Option.bind_eq_some_iff.mp H
  obtain ⟨⟨t246, t247⟩, A60, H⟩ := H
  replace H : (some (t246, t241, t247)) = some (r1, r2, r3) := H
  have A6 := zK A60; clear A60
  simp only [Option.some.injEq, Prod.mk.injEq] at H
  obtain ⟨rfl, rfl, rfl⟩ := H
  go_enter Try.func65, Try.ntmps65
  go_wp2_with (first | ((with_reducible refine gate_dst (N := 3) rfl ?_); refine box_event ?hg (N := 3) ?hd (cs := #[.int .i64 a0_0, .slice A0_1 l0_1.length c0_1]) (t := 62) ?hr ?_; (case hd => rfl); (case hg => rfl); (case hr => first | (go_simp; done) | (go_simp; rfl)); intro gb238 hg w7 hbox hb; have BK238 := zK (hbox); have GW238 := zK ((by rw [hg]; exact (below_size (zo HB)) : w.heap.size ≤ gb238)); have GE238 := zK ((by rw [hg]; exact (below_size (zo HB)) : w.heap.size ≤ gb238)); replace HB := zK (below_step (zo HB) hb); clear hb hbox hg) | ((with_reducible refine gate_dst (N := 6) rfl ?_); refine box_event ?hg (N := 6) ?hd (cs := #[.int .i64 0, .slice none 0 0]) (t := 62) ?hr ?_; (case hd => rfl); (case hg => rfl); (case hr => first | (go_simp; done) | (go_simp; rfl)); intro gb239 hg w8 hbox hb; have BK239 := zK (hbox); have GW239 := zK ((by rw [hg]; exact (below_size (zo HB)) : w.heap.size ≤ gb239)); have GE239 := zK ((by rw [hg]; exact (below_size (zo HB)) : w.heap.size ≤ gb239)); replace HB := zK (below_step (zo HB) hb); have NB238_239 := zK ((by rw [hg]; exact Nat.ne_of_lt (blk_lt (g := gb238) (o := .cells #[.int .i64 a0_0, .slice A0_1 l0_1.length c0_1] 62 (0, 0)) (zb BK238)) : gb238 ≠ gb239)); have NB239_238 := zK ((by rw [hg]; exact Nat.ne_of_gt (blk_lt (g := gb238) (o := .cells #[.int .i64 a0_0, .slice A0_1 l0_1.length c0_1] 62 (0, 0)) (zb BK238)) : gb239 ≠ gb238)); replace BK238 := zK (blk_below (g := gb238) (o := .cells #[.int .i64 a0_0, .slice A0_1 l0_1.length c0_1] 62 (0, 0)) (zb BK238) hb); clear hb hbox hg; have hnb9 := NB238_239.out; have hnc9 := NB239_238.out; have hcz10_0 : w8.cell? ⟨gb238, 0, none⟩ = some (.int .i64 a0_0) := (blk_cell BK238.out 0).trans rfl; have hcz10_1 : w8.cell? ⟨gb238, 1, none⟩ = some (.slice A0_1 l0_1.length c0_1) := (blk_cell BK238.out 1).trans rfl; have hfz10_0 := blk_frozen BK238.out 0; have hfz10_1 := blk_frozen BK238.out 1) | ((with_reducible refine zC (f := 94) rfl ?_); refine goesL_ (some 14) rfl rfl Try.func94 (by kernel_rfl) rfl #[.agg #[.int .i64 a0_0, .slice A0_1 l0_1.length c0_1], .int .i64 (-1)] rfl (by (try simp only [List.map_toArray, List.map_cons, List.map_nil]); first | done | rfl | (simp only [List.length_drop, List.length_take]; rfl)) ?_; (with_reducible refine (lin_Scale.calls k a0_0 (fun k_ => k_ < w.heap.size) _ _ l0_1 (-1) t240 t241 t244 _ ?side1 A4.out).mono ?_); (case side1 => exact Kd.V_mk HC0_1.out (Kd.F_below (Kd.C_F k68_heap HR0_1.out) (zo HB))); rintro e w11 ⟨v242, rfl, ho0, hb⟩; refine ⟨_, rfl, ?_⟩; have HO243 := zK (Kd.R_lower (Kd.R_mono (ok' := fun k_ => True) ho0 (fun _ hk_ => trivial)) (below_size (zo HB))); replace BK238 := zK (blk_below (g := gb238) (o := .cells #[.int .i64 a0_0, .slice A0_1 l0_1.length c0_1] 62 (0, 0)) (zb BK238) hb); replace BK239 := zK (blk_below (g := gb239) (o := .cells #[.int .i64 0, .slice none 0 0] 62 (0, 0)) (zb BK239) hb); replace HB := zK (below_step (zo HB) hb); (try clear hb); (try clear hb2); (try clear hk); (try clear hi); (try clear ho0)) | ((with_reducible refine gate_dst (N := 8) rfl ?_); refine box_event ?hg (N := 8) ?hd (cs := #[.int .i64 0, .slice none 0 0]) (t := 62) ?hr ?_; (case hd => rfl); (case hg => rfl); (case hr => first | (go_simp; done) | (go_simp; rfl)); intro gb245 hg w12 hbox hb; replace HO243 := zK (Kd.R_below (zr HO243) hb); have BK245 := zK (hbox); have GW245 := zK ((by rw [hg]; exact (below_size (zo HB)) : w.heap.size ≤ gb245)); have GE245 := zK ((by rw [hg]; exact (below_size (zo HB)) : w.heap.size ≤ gb245)); replace HB := zK (below_step (zo HB) hb); have NB238_245 := zK ((by rw [hg]; exact Nat.ne_of_lt (blk_lt (g := gb238) (o := .cells #[.int .i64 a0_0, .slice A0_1 l0_1.length c0_1] 62 (0, 0)) (zb BK238)) : gb238 ≠ gb245)); have NB245_238 := zK ((by rw [hg]; exact Nat.ne_of_gt (blk_lt (g := gb238) (o := .cells #[.int .i64 a0_0, .slice A0_1 l0_1.length c0_1] 62 (0, 0)) (zb BK238)) : gb245 ≠ gb238)); replace BK238 := zK (blk_below (g := gb238) (o := .cells #[.int .i64 a0_0, .slice A0_1 l0_1.length c0_1] 62 (0, 0)) (zb BK238) hb); have NB239_245 := zK ((by rw [hg]; exact Nat.ne_of_lt (blk_lt (g := gb239) (o := .cells #[.int .i64 0, .slice none 0 0] 62 (0, 0)) (zb BK239)) : gb239 ≠ gb245)); have NB245_239 := zK ((by rw [hg]; exact Nat.ne_of_gt (blk_lt (g := gb239) (o := .cells #[.int .i64 0, .slice none 0 0] 62 (0, 0)) (zb BK239)) : gb245 ≠ gb239)); replace BK239 := zK (blk_below (g := gb239) (o := .cells #[.int .i64 0, .slice none 0 0] 62 (0, 0)) (zb BK239) hb); clear hb hbox hg; have hnb13 := NB245_238.out; have hnc13 := NB238_245.out; have hnb14 := NB245_239.out; have hnc14 := NB239_245.out; have hcz15_0 : w12.cell? ⟨gb245, 0, none⟩ = some (.int .i64 0) := (blk_cell BK245.out 0).trans rfl; have hcz15_1 : w12.cell? ⟨gb245, 1, none⟩ = some (.slice none 0 0) := (blk_cell BK245.out 1).trans rfl; have hfz15_0 := blk_frozen BK245.out 0; have hfz15_1 := blk_frozen BK245.out 1; obtain ⟨Ao16, co16, eo16⟩ := Kd.R_slice HO243.out; subst eo16) | ((with_reducible refine zC (f := 91) rfl ?_); refine goesL_ (some 24) rfl rfl Try.func91 (by kernel_rfl) rfl #[.int .i64 t240, .int .i64 a2] rfl (by (try simp only [List.map_toArray, List.map_cons, List.map_nil]); first | done | rfl | (simp only [List.length_drop, List.length_take]; rfl)) ?_; (with_reducible refine (num_Sub.calls t240 a2 t246 t247 _ A6.out).mono ?_); rintro e w' ⟨rfl, ⟨nd, rfl⟩⟩; refine ⟨_, rfl, ?_⟩; have hcz17_0 : w12.cell? ⟨gb239, 0, none⟩ = some (.int .i64 0) := (blk_cell BK239.out 0).trans rfl; have hcz17_1 : w12.cell? ⟨gb239, 1, none⟩ = some (.slice none 0 0) := (blk_cell BK239.out 1).trans rfl; have hfz17_0 := blk_frozen BK239.out 0; have hfz17_1 := blk_frozen BK239.out 1))
  refine bodyPost_ret (results_ct rfl _ _ gb239 62 #[.int .i64 t246, .slice Ao16 t241.length co16] (0, 0) _ rfl (by refine zM ?_; refine blk_put (cs := #[.int .i64 t246, .slice none 0 0]) ?_ 1 _ rfl; refine zM ?_; refine blk_put (cs := #[.int .i64 0, .slice none 0 0]) ?_ 0 _ rfl; refine zM ?_; refine blk_far ?_ NB239_245.out _; refine zM ?_; refine blk_far ?_ NB239_245.out _; refine zM ?_; refine blk_far ?_ NB239_245.out _; refine zM ?_; exact BK239.out) Try.underlying62 rfl (by kernel_rfl)) rfl ?_
  exact ⟨_, by first | rfl | (simp [errW_none, errW_some] <;> rfl) | (simp [*, errW_none, errW_some] <;> rfl), by (with_reducible repeat (first | apply Kd.R_alloc | apply Kd.R_drewN | apply Kd.R_drew)); exact Kd.R_mono (Kd.R_far (p := ⟨gb239, 1, none⟩) (Kd.R_far (p := ⟨gb239, 0, none⟩) (Kd.R_far (p := ⟨gb245, 0, none⟩) (Kd.R_far (p := ⟨gb245, 1, none⟩) (Kd.R_far (p := ⟨gb245, 0, none⟩) (Kd.R_types (Kd.R_types HO243.out BK245.out (by decide)) BK239.out (by decide)) (fun _ hk => hk.1.2) (.int .i64 t240)) (fun _ hk => hk.1.2) (.slice Ao16 t241.length co16)) (fun _ hk => hk.1.2) (.int .i64 t246)) (fun _ hk => hk.2) (.int .i64 t246)) (fun _ hk => hk.2) (.slice Ao16 t241.length co16)) (fun _ hk => trivial), zo HB⟩
 ·rw [if_neg c5] at H
  have c5b0 : (t244 == 0) = false := beq_eq_false_iff_ne.mpr c5
  have c5b1 : (t244 != 0) = true := bne_iff_ne.mpr c5
  simp only [Option.some.injEq, Prod.mk.injEq] at H
  obtain ⟨rfl, rfl, rfl⟩ := H
  go_enter Try.func65, Try.ntmps65
  go_wp2_with (first | ((with_reducible refine gate_dst (N := 3) rfl ?_); refine box_event ?hg (N := 3) ?hd (cs := #[.int .i64 a0_0, .slice A0_1 l0_1.length c0_1]) (t := 62) ?hr ?_; (case hd => rfl); (case hg => rfl); (case hr => first | (go_simp; done) | (go_simp; rfl)); intro gb238 hg w18 hbox hb; have BK238 := zK (hbox); have GW238 := zK ((by rw [hg]; exact (below_size (zo HB)) : w.heap.size ≤ gb238)); have GE238 := zK ((by rw [hg]; exact (below_size (zo HB)) : w.heap.size ≤ gb238)); replace HB := zK (below_step (zo HB) hb); clear hb hbox hg) | ((with_reducible refine gate_dst (N := 6) rfl ?_); refine box_event ?hg (N := 6) ?hd (cs := #[.int .i64 0, .slice none 0 0]) (t := 62) ?hr ?_; (case hd => rfl); (case hg => rfl); (case hr => first | (go_simp; done) | (go_simp; rfl)); intro gb239 hg w19 hbox hb; have BK239 := zK (hbox); have GW239 := zK ((by rw [hg]; exact (below_size (zo HB)) : w.heap.size ≤ gb239)); have GE239 := zK ((by rw [hg]; exact (below_size (zo HB)) : w.heap.size ≤ gb239)); replace HB := zK (below_step (zo HB) hb); have NB238_239 := zK ((by rw [hg]; exact Nat.ne_of_lt (blk_lt (g := gb238) (o := .cells #[.int .i64 a0_0, .slice A0_1 l0_1.length c0_1] 62 (0, 0)) (zb BK238)) : gb238 ≠ gb239)); have NB239_238 := zK ((by rw [hg]; exact Nat.ne_of_gt (blk_lt (g := gb238) (o := .cells #[.int .i64 a0_0, .slice A0_1 l0_1.length c0_1] 62 (0, 0)) (zb BK238)) : gb239 ≠ gb238)); replace BK238 := zK (blk_below (g := gb238) (o := .cells #[.int .i64 a0_0, .slice A0_1 l0_1.length c0_1] 62 (0, 0)) (zb BK238) hb); clear hb hbox hg; have hnb20 := NB238_239.out; have hnc20 := NB239_238.out; have hcz21_0 : w19.cell? ⟨gb238, 0, none⟩ = some (.int .i64 a0_0) := (blk_cell BK238.out 0).trans rfl; have hcz21_1 : w19.cell? ⟨gb238, 1, none⟩ = some (.slice A0_1 l0_1.length c0_1) := (blk_cell BK238.out 1).trans rfl; have hfz21_0 := blk_frozen BK238.out 0; have hfz21_1 := blk_frozen BK238.out 1) | ((with_reducible refine zC (f := 94) rfl ?_); refine goesL_ (some 14) rfl rfl Try.func94 (by kernel_rfl) rfl #[.agg #[.int .i64 a0_0, .slice A0_1 l0_1.length c0_1], .int .i64 (-1)] rfl (by (try simp only [List.map_toArray, List.map_cons, List.map_nil]); first | done | rfl | (simp only [List.length_drop, List.length_take]; rfl)) ?_; (with_reducible refine (lin_Scale.calls k a0_0 (fun k_ => k_ < w.heap.size) _ _ l0_1 (-1) t240 t241 t244 _ ?side1 A4.out).mono ?_); (case side1 => exact Kd.V_mk HC0_1.out (Kd.F_below (Kd.C_F k68_heap HR0_1.out) (zo HB))); rintro e w22 ⟨v242, rfl, ho0, hb⟩; refine ⟨_, rfl, ?_⟩; have HO243 := zK (Kd.R_lower (Kd.R_mono (ok' := fun k_ => True) ho0 (fun _ hk_ => trivial)) (below_size (zo HB))); replace BK238 := zK (blk_below (g := gb238) (o := .cells #[.int .i64 a0_0, .slice A0_1 l0_1.length c0_1] 62 (0, 0)) (zb BK238) hb); replace BK239 := zK (blk_below (g := gb239) (o := .cells #[.int .i64 0, .slice none 0 0] 62 (0, 0)) (zb BK239) hb); replace HB := zK (below_step (zo HB) hb); (try clear hb); (try clear hb2); (try clear hk); (try clear hi); (try clear ho0)) | ((with_reducible refine gate_dst (N := 8) rfl ?_); refine box_event ?hg (N := 8) ?hd (cs := #[.int .i64 0, .slice none 0 0]) (t := 62) ?hr ?_; (case hd => rfl); (case hg => rfl); (case hr => first | (go_simp; done) | (go_simp; rfl)); intro gb245 hg w23 hbox hb; replace HO243 := zK (Kd.R_below (zr HO243) hb); have BK245 := zK (hbox); have GW245 := zK ((by rw [hg]; exact (below_size (zo HB)) : w.heap.size ≤ gb245)); have GE245 := zK ((by rw [hg]; exact (below_size (zo HB)) : w.heap.size ≤ gb245)); replace HB := zK (below_step (zo HB) hb); have NB238_245 := zK ((by rw [hg]; exact Nat.ne_of_lt (blk_lt (g := gb238) (o := .cells #[.int .i64 a0_0, .slice A0_1 l0_1.length c0_1] 62 (0, 0)) (zb BK238)) : gb238 ≠ gb245)); have NB245_238 := zK ((by rw [hg]; exact Nat.ne_of_gt (blk_lt (g := gb238) (o := .cells #[.int .i64 a0_0, .slice A0_1 l0_1.length c0_1] 62 (0, 0)) (zb BK238)) : gb245 ≠ gb238)); replace BK238 := zK (blk_below (g := gb238) (o := .cells #[.int .i64 a0_0, .slice A0_1 l0_1.length c0_1] 62 (0, 0)) (zb BK238) hb); have NB239_245 := zK ((by rw [hg]; exact Nat.ne_of_lt (blk_lt (g := gb239) (o := .cells #[.int .i64 0, .slice none 0 0] 62 (0, 0)) (zb BK239)) : gb239 ≠ gb245)); have NB245_239 := zK ((by rw [hg]; exact Nat.ne_of_gt (blk_lt (g := gb239) (o := .cells #[.int .i64 0, .slice none 0 0] 62 (0, 0)) (zb BK239)) : gb245 ≠ gb239)); replace BK239 := zK (blk_below (g := gb239) (o := .cells #[.int .i64 0, .slice none 0 0] 62 (0, 0)) (zb BK239) hb); clear hb hbox hg; have hnb24 := NB245_238.out; have hnc24 := NB238_245.out; have hnb25 := NB245_239.out; have hnc25 := NB239_245.out; have hcz26_0 : w23.cell? ⟨gb245, 0, none⟩ = some (.int .i64 0) := (blk_cell BK245.out 0).trans rfl; have hcz26_1 : w23.cell? ⟨gb245, 1, none⟩ = some (.slice none 0 0) := (blk_cell BK245.out 1).trans rfl; have hfz26_0 := blk_frozen BK245.out 0; have hfz26_1 := blk_frozen BK245.out 1; obtain ⟨Ao27, co27, eo27⟩ := Kd.R_slice HO243.out; subst eo27; have hcz28_0 : w23.cell? ⟨gb239, 0, none⟩ = some (.int .i64 0) := (blk_cell BK239.out 0).trans rfl; have hcz28_1 : w23.cell? ⟨gb239, 1, none⟩ = some (.slice none 0 0) := (blk_cell BK239.out 1).trans rfl; have hfz28_0 := blk_frozen BK239.out 0; have hfz28_1 := blk_frozen BK239.out 1))
  refine bodyPost_ret (results_ct rfl _ _ gb239 62 #[.int .i64 0, .slice none 0 0] (0, 0) _ rfl (by refine zM ?_; refine blk_put (cs := #[.int .i64 0, .slice none 0 0]) ?_ 1 _ rfl; refine zM ?_; refine blk_put (cs := #[.int .i64 0, .slice none 0 0]) ?_ 0 _ rfl; refine zM ?_; refine blk_far ?_ NB239_245.out _; refine zM ?_; refine blk_far ?_ NB239_245.out _; refine zM ?_; exact BK239.out) Try.underlying62 rfl (by kernel_rfl)) rfl ?_
  exact ⟨_, by first | rfl | (simp [errW_none, errW_some] <;> rfl) | (simp [*, errW_none, errW_some] <;> rfl), by first | exact Kd.R_nil _ _ _ _ _ | exact Kd.N_nil _ _ _ _ _ | exact Kd.V_nil _ _ _ _ _ | exact Kd.Q_nil _ _ _ _ _ | exact Kd.S_nil _ _ _ _ _, zo HB⟩

end Go.Proofs.Ytkfbfgkdabljiaa.PShadowSplits
